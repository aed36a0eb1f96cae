/- The logical machine, part 1: VmDef, VmWp, VmChk, VmRel, VmRen, VmOps1, VmEff, VmOps2, VmOps3, VmOps4, VmOps5, VmOps6, VmOps7, VmOps8, VmOps9, VmEq, VmMap, VmOpsA, VmCall, VmCall2, VmCall3, VmFp, VmRun. -/
import GoSem.Dispatch
import Derived.Laws.StructEq
import Derived.Calls
import Derived.Below
import Derived.Laws.CopyRow
import Derived.Deep.AppendSrc
import Derived.Deep.Upon
import Derived.WideKeyRuns
open Option renaming map_eq_some_iff->If,isSome_iff_exists->GH,getD_none->Tj,getD_some->Y2,any_some->hx,some->aa,none->Ie
open Option.some renaming injEq->IR
open List renaming getElem?_eq_getElem->NE,getElem?_eq_some_iff->Sw,getElem?_append_left->Ii,mem_singleton->Mi,getElem?_append_right->SG,replicate->SI,getElem?_eq_none->Mp,getElem?_toArray->YJ,size_toArray->Mq,flatMap_cons->SJ,all_eq_true->SK,mem_append->Sv,length_append->al,length_cons->YF,mem_of_getElem?->Pg,mem_iff_getElem->D8,mem_cons_of_mem->Vf,foldl_cons->Su,ext_getElem?->Ml,flatMap_nil->Vg,length_eq_zero_iff->SM,drop_eq_nil_of_le->SN,take_append_drop->OH,mem_cons->D5,getElem?_drop->hi,mem_replicate->YB,mem_flatMap->tA,length_nil->Ze,drop_drop->h1,length->YD,length->hl
open Bool renaming and_eq_true->PP,not_eq_true'->SL,or_eq_true->Pu,true->Pd,false->EC
open Go.Result renaming andThen_ok->Y
open Nat renaming beq->WF,le_refl->Pc,mul_le_mul_right->KJ,ble->YG,add_mul->Xc,lt_or_ge->YI,add_assoc->Mg,blt->KL,ble_eq->g',eq_or_lt_of_le->Ih,beq_eq->vk,eq_zero_or_pos->h2,le_max_right->Mr,le_max_left->Zf,mul_eq_zero->Pv,mul_le_mul->YC,le_trans->Ss,zero_add->KN
open Go.Sem renaming run_bind->Md,run_pure->YH
open Prod.mk renaming injEq->EE
open Array renaming getElem?_eq_some_iff->SH,ext'->QK,getElem?_setIfInBounds->xc,range->KO,map->Sy,toList_map->Zg
open Int renaming toNat_natCast->h9
open Decidable renaming decide->Pw
/- Definitions of a logical machine over pure values: what it computes is tied to the model's runs in VmSound. -/
namespace Go.Vm
abbrev J:=List
abbrev O:=Option
universe u
theorem ww{α:Sort u}{a b:α}:cond Pd a b=a:=rfl
theorem AC{α:Sort u}{a b:α}:cond EC a b=b:=rfl
theorem Do{c:Prop}{h:Decidable c}(p:c){α:Sort u}{t e:α}:ite c t e=t:=if_pos p
theorem EQ{c:Prop}{h:Decidable c}(p:¬c){α:Sort u}{t e:α}:ite c t e=e:=if_neg p
inductive PV where
 |undef
 |oI
 |int(k:IntKind)(n:Int)
 |bool(b:Bool)
 |str(s:ByteArray)
 |agg(cs:List PV)
 |cT(cs:List PV)
 |sl(aT:Nat)(yg:Bool)(rows:List (List PV))
 |own(t aT off len cap:Nat)(ex:Bool)
 |ptr(t aT row off:Nat)
 |cj(cells:List PV)(off:Nat)
 |mp(t:Nat)
 |fY(fn:FuncId)(fst cap:List PV)
 |fC
instance:Inhabited PV:=⟨.undef⟩
abbrev Row:=J PV
inductive pT where
 |arr(aT:Nat)(rows:List Row)
 |box(cells:List PV)
 |map(es:List (PV×PV))
 |dead
abbrev dp:=J pT
abbrev Env:=J (Nat×PV)
inductive jd where
 |t(n:Nat)
 |c(v:PV)
inductive CM where
 |Zh|own|shr|fp
inductive qd where
 |SP(x:jd)
 |pick(c a b:jd)
 |bin(op:BinOp)(x y:jd)
 |Si(neg:Bool)(x y:jd)
 |MV(n:Nat)(neg:Bool)(x y:jd)
 |un(op:UnOp)(x:jd)
 |conv(k:IntKind)(x:jd)
 |len(x:jd)
 |U7(n:Nat)
 |box(x:jd)
 |alloc(cells:List PV)
 |build(zero:List PV)(parts:List (Nat×Nat×jd))
 |Ia(aT n:Nat)(zero:Row)(parts:List (Nat×jd))
 |KG(x y:jd)
 |load(agg:Option Nat)(p:jd)
 |store(sz:Nat)(p v:jd)
 |Sj(x:jd)
 |Sk(off:Nat)(p:jd)
 |fD(agg:Option Nat)(off:Nat)(x:jd)
 |Sl(aT:Nat)(x i:jd)
 |KH(n aT:Nat)(p i:jd)
 |idx(n aT:Nat)(agg:Option Nat)(x i:jd)
 |Sm(x i:jd)
 |Yx(aT:Nat)(x:jd)(lo N mx:Option jd)
 |mo(aT:Nat)(zero:Row)(len cap:jd)
 |km(fn:FuncId)(fst cap:List jd)
 |MW(z:Option PV)
 |lookup(n:Option Nat)(zero:PV)(ok:Bool)(m k:jd)
 |Qx(n:Option Nat)(m k v:jd)
 |ext(i:Nat)(x:jd)
 |append(aT:Nat)(x y:jd)
 |copy(aT:Nat)(x y:jd)
 |clear(aT:Nat)(zero:Row)(x:jd)
 |mm(uE:Bool)(x:jd)(xs:List jd)
 |call(m:CM)(f:FuncId)(args:List jd)
 |D3(x:jd)(args:List jd)
 |bad
structure dD where
 dst:Option Nat
 op:qd
 guard:Option (Nat×Bool)
inductive pg where
 |skip
 |region(draw:Option (List Nat))(ops:List dD)(iH:List Nat)
 |seq(a b:pg)
 |cond(c:jd)(a b:pg)
 |block(id:Nat)(b:pg)
 |loop(live:List (Nat×Option Nat))(b:pg)
 |exit(id:Nat)
 |ret
inductive RV where
 |tmp(t:Nat)
 |cell(t:Nat)(agg:Option Nat)
structure ay where
 Sn:Nat
 code:pg
 res:List RV
inductive nz where
 |code(x:ay)
 |p7(W6:Bool)(f:List PV->Option (PV×dp))
 |OG(f:List PV->dp->List Nat->Option (PV×dp×List Nat))
abbrev s9:=FuncId->O nz
structure St where
 env:Env
 aH:dp
 fz:List Nat
 kn:Nat
inductive mM where
 |normal
 |exit(id:Nat)
 |ret
def lk(t:Nat):Env->PV
 | []=> .undef
 |(s,v)::r=>if WF s t then v else lk t r
def jd.ev(e:Env):jd->PV
 | .t n=>lk n e
 | .c v=>v
def PV.yA:PV->Bool
 | .undef| .oI| .agg _| .cT _=>EC
 |_=>Pd
def PV.plain:PV->Bool
 | .int _ _| .bool _| .str _=>Pd
 |_=>EC
def PV.cells:PV->J PV
 | .agg cs=>cs
 |v=>[v]
def PV.stored(v:PV):O (J PV):=if v.cells.all PV.yA then aa v.cells else Ie
def PV.di(v:PV):O (J PV):=if v.cells.all PV.plain then aa v.cells else Ie
def part(agg:O Nat)(off:Nat)(cs:J PV):O PV:=
 match agg with
 |some s=>if off+s<=(hl cs)then aa (.agg ((cs.drop off).take s))else Ie
 |none=>cs[off]?
def yh(off:Nat)(new old:J PV):J PV:=old.take off++new++old.drop (off+hl new)
def M(k:IntKind)(n:Int):Int:=
 match k,n with
 | .i64,.ofNat m=>if KL m 9223372036854775808 then .ofNat m else IntKind.wrap .i64 n
 | .i64,.negSucc m=>if KL m 9223372036854775808 then .negSucc m else IntKind.wrap .i64 n
 | .u64,.ofNat m=> .ofNat (Nat.mod m 18446744073709551616)
 |k,n=>IntKind.wrap k n
def arith(op:BinOp)(k:IntKind)(a b:Int):O PV:=
 match op with
 | .add=>aa (.int k (M k (a+b)))
 | .sub=>aa (.int k (M k (a-b)))
 | .mul=>aa (.int k (M k (a*b)))
 | .quo=>if b=0 then Ie else aa (.int k (M k (a.tdiv b)))
 | .rem=>if b=0 then Ie else aa (.int k (a.tmod b))
 | .and=>aa (.int k (k.wrap (BitVec.ofInt k.bits a&&&BitVec.ofInt k.bits b).toNat))
 | .or=>aa (.int k (k.wrap (BitVec.ofInt k.bits a|||BitVec.ofInt k.bits b).toNat))
 | .xor=>aa (.int k (k.wrap (BitVec.ofInt k.bits a^^^BitVec.ofInt k.bits b).toNat))
 | .andNot=>aa (.int k (k.wrap (BitVec.ofInt k.bits a&&& ~~~ BitVec.ofInt k.bits b).toNat))
 | .eql=>aa (.bool (a==b))
 | .neq=>aa (.bool (a !=b))
 | .lss=>aa (.bool (Pw (a<b)))
 | .leq=>aa (.bool (Pw (a<=b)))
 | .gtr=>aa (.bool (Pw (a>b)))
 | .geq=>aa (.bool (Pw (a>=b)))
 | .shl| .shr=>Ie
def JC(op:BinOp)(k:IntKind)(a b:Int):O PV:=
 if b<0 then Ie else
 let n:=min b.toNat k.bits
 match op with
 | .shl=>aa (.int k (k.wrap (a*2^n)))
 | .shr=>aa (.int k (a.fdiv (2^n)))
 |_=>Ie
def iA:IntKind->IntKind->Bool
 | .i8,.i8| .i16,.i16| .i32,.i32| .i64,.i64| .u8,.u8| .u16,.u16| .u32,.u32| .u64,.u64=>Pd
 |_,_=>EC
def Yy(op:BinOp)(x y:PV):O PV:=
 match x,y with
 | .int k a,.int l b=>
  match op with
  | .shl=>JC .shl k a b
  | .shr=>JC .shr k a b
  |op=>if iA k l then arith op k a b else Ie
 |_,_=>Ie
def zo:PV->PV->O Bool
 | .int k a,.int l b=>if iA k l then aa (a==b)else Ie
 |_,_=>Ie
def eu:J PV->J PV->O Bool
 | [],[]=>aa Pd
 |x::xs,y::ys=>
  match zo x y with
  |some Pd=>eu xs ys
  |some EC=>aa EC
  |none=>Ie
 |_,_=>Ie
def gm(op:UnOp)(x:PV):O PV:=
 match op,x with
 | .neg,.int k n=>aa (.int k (M k (0-n)))
 | .not,.bool b=>aa (.bool !b)
 |_,_=>Ie
def rowsOf(aH:dp)(aT:Nat):PV->O (J Row)
 | .sl e _ rows=>match rows with
  | []=>aa []
  |_=>if WF e aT then aa rows else Ie
 | .own t e off len _ _=>if WF e aT then(match aH[t]? with
  |some (.arr _ rows)=>aa ((rows.drop off).take len)
  |_=>Ie)else Ie
 |_=>Ie
def nK:PV->J Nat
 | .own t _ _ _ _ _=>[t]
 |_=>[]
structure v7 where
 v:PV
 news:dp:=[]
 wr:List (Nat×pT):=[]
 rd:List Nat:=[]
 fr:List Nat:=[]
def tf:J (Nat×Nat×PV)->J PV->O (J PV)
 | [],cs=>aa cs
 |(off,sz,v)::r,cs=>
  match v.stored with
  |some w=>if WF (hl w) sz&&YG (off+sz) (hl cs)then tf r (yh off w cs)else Ie
  |none=>Ie
def xF:J (Nat×PV)->J Row->Nat->O (J Row)
 | [],rows,_=>aa rows
 |(i,v)::r,rows,aT=>
  match v.di with
  |some w=>if WF (hl w) aT&&KL i (hl rows)then xF r (rows.set i w) aT else Ie
  |none=>Ie
def nL:PV->O Nat
 | .int _ n=>match n with
  | .ofNat m=>aa m
  | .negSucc _=>Ie
 |_=>Ie
def oa(n:O Nat)(k:PV):Bool:=
 match n,k with
 |none,.int _ _=>Pd
 |some n,.agg cs=>WF (hl cs) n
 |_,_=>EC
def iI(n:O Nat)(k:PV):J (PV×PV)->Nat->O (O Nat)
 | [],_=>aa Ie
 |(a,_)::r,i=>
  if oa n a then
   match eu k.cells a.cells with
   |some Pd=>aa (aa i)
   |some EC=>iI n k r (i+1)
   |none=>Ie
  else Ie
def gX:Nat:=1048576
def v8(aH:dp)(agg:O Nat):PV->O v7
 | .ptr t _ row off=>match aH[t]? with
  |some (.arr _ rows)=>match rows[row]? with
   |some cs=>(part agg off cs).map λv=>{v,rd:=[t]}
   |none=>Ie
  |some (.box cs)=>if WF row 0 then(part agg off cs).map λv=>{v,rd:=[t]}else Ie
  |_=>Ie
 | .cj cs off=>(part agg off cs).map λv=>{v}
 |_=>Ie
def has(l:J Nat)(t:Nat):Bool:=l.any (WF t)
def zp(aH:dp)(fz:J Nat)(sz:Nat)(v:PV):PV->O v7
 | .ptr t _ row off=>match aH[t]? with
  |some (.arr e rows)=>match rows[row]?,v.di with
   |some cs,aa w=>if WF (hl w) sz&&YG (off+sz) (hl cs)&&!has fz t then
    aa {v:= .undef,wr:=[(t,.arr e (rows.set row (yh off w cs)))]}else Ie
   |_,_=>Ie
  |some (.box cs)=>match v.stored with
   |some w=>if WF row 0&&WF (hl w) sz&&YG (off+sz) (hl cs)&&!has fz t then
    aa {v:= .undef,wr:=[(t,.box (yh off w cs))]}else Ie
   |none=>Ie
  |_=>Ie
 |_=>Ie
def BT(aT:Nat):PV->Bool
 | .sl e _ rows=>WF e aT||rows.isEmpty
 | .own _ e _ _ _ _=>WF e aT
 |_=>EC
def yi(x:PV)(lo N mx:O Nat):O PV:=
 match x with
 | .sl e yg rows=>
  let l:=lo.getD 0
  let h:=N.getD (hl rows)
  match mx with
  |none=>if YG l h&&YG h (hl rows)then aa (.sl e (yg&&WF h (hl rows)) ((rows.drop l).take (h-l)))else Ie
  |some m=>if YG l h&&YG h m&&YG m (hl rows)then aa (.sl e (WF h m) ((rows.drop l).take (h-l)))else Ie
 | .own t e off len cap ex=>
  let l:=lo.getD 0
  let h:=N.getD len
  match mx with
  |none=>if YG l h&&YG h cap then aa (.own t e (off+l) (h-l) (cap-l) ex)else Ie
  |some m=>if YG l h&&YG h m&&YG m cap then aa (.own t e (off+l) (h-l) (m-l) Pd)else Ie
 |_=>Ie
def pX:Nat->J Row->J Row->J Row
 |_,[],rows=>rows
 |i,w::r,rows=>pX (i+1) r (rows.set i w)
def mN(aH:dp)(fz:J Nat)(aT:Nat)(x y:PV):O v7:=
 match rowsOf aH aT y with
 |none=>Ie
 |some new=>
  match new with
  | []=>match x with
   | .sl _ yg rows=>if yg&&rows.isEmpty then aa {v:= .own (hl aH) aT 0 0 0 EC,news:=[.arr aT []],rd:=nK y}else aa {v:=x,rd:=nK y}
   | .own t _ _ len cap ex=>if WF len 0&&WF cap 0&&ex then aa {v:= .own (hl aH) aT 0 0 0 EC,news:=[.arr aT []],rd:=t::nK y}else aa {v:=x,rd:=nK y}
   |_=>Ie
  |_=>
   let m:=hl new
   match x with
   | .sl e yg rows=>
    if yg&&(WF e aT||WF (hl rows) 0)&&YG (hl rows+m) gX then
     aa {v:= .own (hl aH) aT 0 (hl rows+m) (hl rows+m) EC,news:=[.arr aT (rows++new)],rd:=nK y}
    else Ie
   | .own t e off len cap ex=>
    match aH[t]? with
    |some (.arr _ rows)=>
     if !Nat.beq e aT then Ie
     else if YG (len+m) cap then
      if has fz t then Ie else aa {v:= .own t e off (len+m) cap ex,wr:=[(t,.arr e (pX (off+len) new rows))],rd:=nK y}
     else if !Nat.ble (len+m) gX then Ie
     else if ex then
      aa {v:= .own (hl aH) e 0 (len+m) (len+m) EC,news:=[.arr e ((rows.drop off).take len++new)],rd:=t::nK y}
     else if has fz t then Ie
     else aa {v:= .own (hl aH) e 0 (len+m) (len+m) EC,news:=[.arr e ((rows.drop off).take len++new)],wr:=[(t,.dead)],rd:=nK y}
    |_=>Ie
   |_=>Ie
def To(uE:Bool)(k:IntKind):Int->J PV->O PV
 |a,[]=>aa (.int k a)
 |a,x::r=>match x with
  | .int l b=>if iA k l then To uE k (if uE then(if b>a then b else a)else(if b<a then b else a)) r else Ie
  |_=>Ie
def U8(e:Env)(l:J jd):J PV:=l.map (jd.ev e)
def Ar(aH:dp)(n:O Nat)(zero:PV)(ok:Bool)(m k:PV):O v7:=
 match m with
 | .mp t=>match aH[t]? with
  |some (.map es)=>if oa n k then(match iI n k es 0 with
   |some (aa i)=>match es[i]? with
    |some p=>aa {v:=if ok then .cT [p.2,.bool Pd]else p.2,rd:=[t]}
    |none=>Ie
   |some Ie=>aa {v:=if ok then .cT [zero,.bool EC]else zero,rd:=[t]}
   |none=>Ie)else Ie
  |_=>Ie
 |_=>Ie
def KI(aH:dp)(fz:J Nat)(n:O Nat)(m k v:PV):O v7:=
 match m with
 | .mp t=>match aH[t]? with
  |some (.map es)=>if oa n k&&!has fz t then(match k.di,v.di with
   |some _,aa _=>match iI n k es 0 with
    |some (aa i)=>aa {v:= .undef,wr:=[(t,.map (es.set i (k,v)))]}
    |some Ie=>aa {v:= .undef,wr:=[(t,.map (es++[(k,v)]))]}
    |none=>Ie
   |_,_=>Ie)else Ie
  |_=>Ie
 |_=>Ie
def cd(e:Env)(aH:dp)(fz:J Nat):qd->O v7
 | .SP x=>aa {v:=x.ev e}
 | .pick c a b=>match c.ev e with
  | .bool Pd=>aa {v:=a.ev e}
  | .bool EC=>aa {v:=b.ev e}
  |_=>Ie
 | .bin op x y=>(Yy op (x.ev e) (y.ev e)).map λv=>{v}
 | .Si neg x y=>match x.ev e,y.ev e with
  | .bool a,.bool b=>aa {v:= .bool (if neg then !(a==b)else a==b)}
  |_,_=>Ie
 | .MV n neg x y=>match x.ev e,y.ev e with
  | .agg xs,.agg ys=>if WF (hl xs) n&&WF (hl ys) n then(eu xs ys).map λb=>{v:= .bool (if neg then !b else b)}else Ie
  |_,_=>Ie
 | .un op x=>(gm op (x.ev e)).map λv=>{v}
 | .conv k x=>match x.ev e with
  | .int _ n=>aa {v:= .int k (M k n)}
  |_=>Ie
 | .len x=>match x.ev e with
  | .sl _ _ rows=>aa {v:= .int .i64 (.ofNat (hl rows))}
  | .own _ _ _ len _ _=>aa {v:= .int .i64 (.ofNat len)}
  |_=>Ie
 | .U7 n=>aa {v:= .int .i64 (.ofNat n)}
 | .box x=>match(x.ev e).stored with
  |some cs=>aa {v:= .ptr (hl aH) (hl cs) 0 0,news:=[.box cs]}
  |none=>Ie
 | .alloc cells=>aa {v:= .ptr (hl aH) (hl cells) 0 0,news:=[.box cells]}
 | .build zero parts=>(tf (parts.map λp=>(p.1,p.2.1,p.2.2.ev e)) zero).map λcs=>{v:= .agg cs}
 | .Ia aT n zero parts=>(xF (parts.map λp=>(p.1,p.2.ev e)) (SI n zero) aT).map λrows=>
  {v:= .own (hl aH) aT 0 n n Pd,news:=[.arr aT rows]}
 | .KG x y=>if(x.ev e).yA&&(y.ev e).yA then aa {v:= .own (hl aH) 1 0 2 2 Pd,news:=[.box [x.ev e,y.ev e]]}else Ie
 | .load agg p=>v8 aH agg (p.ev e)
 | .store sz p v=>zp aH fz sz (v.ev e) (p.ev e)
 | .Sj x=>match x.ev e with
  | .ptr t s r o=>aa {v:= .ptr t s r o}
  | .cj c o=>aa {v:= .cj c o}
  | .fY f a b=>aa {v:= .fY f a b}
  |_=>Ie
 | .Sk off p=>match p.ev e with
  | .ptr t s r o=>aa {v:= .ptr t s r (o+off)}
  | .cj c o=>aa {v:= .cj c (o+off)}
  |_=>Ie
 | .fD agg off x=>match x.ev e with
  | .agg cs=>(part agg off cs).map λv=>{v}
  |_=>Ie
 | .Sl aT x i=>match nL (i.ev e)with
  |none=>Ie
  |some n=>match x.ev e with
   | .sl s _ rows=>match rows[n]? with
    |some cs=>if WF s aT then aa {v:= .cj cs 0}else Ie
    |none=>Ie
   | .own t s off len _ _=>if KL n len&&WF s aT then aa {v:= .ptr t s (off+n) 0}else Ie
   |_=>Ie
 | .KH n aT p i=>match nL (i.ev e)with
  |none=>Ie
  |some j=>if KL j n then(match p.ev e with
   | .ptr t s r o=>aa {v:= .ptr t s r (o+j*aT)}
   | .cj c o=>aa {v:= .cj c (o+j*aT)}
   |_=>Ie)else Ie
 | .idx n aT agg x i=>match nL (i.ev e)with
  |none=>Ie
  |some j=>if KL j n then(match x.ev e with
   | .agg cs=>(part agg (j*aT) cs).map λv=>{v}
   |_=>Ie)else Ie
 | .Sm x i=>match nL (i.ev e),x.ev e with
  |some j,.str s=>match s[j]? with
   |some b=>aa {v:= .int .u8 b.toNat}
   |none=>Ie
  |_,_=>Ie
 | .Yx aT x lo N mx=>
  if !BT aT (x.ev e)then Ie else
  match(match lo with|none=>aa Ie|some a=>(nL (a.ev e)).map aa),
   (match N with|none=>aa Ie|some a=>(nL (a.ev e)).map aa),
   (match mx with|none=>aa Ie|some a=>(nL (a.ev e)).map aa)with
  |some l,aa h,aa m=>(yi (x.ev e) l h m).map λv=>{v}
  |_,_,_=>Ie
 | .mo aT zero l c=>match nL (l.ev e),nL (c.ev e)with
  |some n,aa m=>if YG n m&&YG m gX then
   aa {v:= .own (hl aH) aT 0 n m Pd,news:=[.arr aT (SI m zero)]}else Ie
  |_,_=>Ie
 | .km fn a b=>aa {v:= .fY fn (U8 e a) (U8 e b)}
 | .MW _=>aa {v:= .mp (hl aH),news:=[.map []]}
 | .lookup n zero ok m k=>Ar aH n zero ok (m.ev e) (k.ev e)
 | .Qx n m k v=>KI aH fz n (m.ev e) (k.ev e) (v.ev e)
 | .ext i x=>match x.ev e with
  | .cT vs=>vs[i]?.map λv=>{v}
  |_=>Ie
 | .append aT x y=>mN aH fz aT (x.ev e) (y.ev e)
 | .copy aT x y=>match rowsOf aH aT (y.ev e),x.ev e with
  |some src,.own t s off len _ _=>match src.take len with
   | []=>aa {v:= .int .i64 0,rd:=nK (y.ev e)}
   |r::rs=>match aH[t]? with
    |some (.arr s' rows)=>
     if WF s aT&&!has fz t then
      aa {v:= .int .i64 (.ofNat (hl rs+1)),wr:=[(t,.arr s' (pX off (r::rs) rows))],rd:=nK (y.ev e)}
     else Ie
    |_=>Ie
  |_,_=>Ie
 | .clear aT zero x=>match x.ev e with
  | .own t s off len _ _=>match len with
   |0=>aa {v:= .undef}
   |len+1=>match aH[t]? with
    |some (.arr s' rows)=>
     if WF s aT&&!has fz t then
      aa {v:= .undef,wr:=[(t,.arr s' (pX off (SI (len+1) zero) rows))]}
     else Ie
    |_=>Ie
  | .sl _ _ []=>aa {v:= .undef}
  |_=>Ie
 | .mm uE x xs=>match x.ev e with
  | .int k a=>(To uE k a (U8 e xs)).map λv=>{v}
  |_=>Ie
 | .call .. =>Ie
 | .D3 .. =>Ie
 | .bad=>Ie
mutual
def JD(aH:dp)(bx:Nat->O (J PV)):PV->O PV
 | .undef=>Ie
 | .oI=>Ie
 | .int k n=>aa (.int k n)
 | .bool b=>aa (.bool b)
 | .str s=>aa (.str s)
 | .agg cs=>(L9 aH bx cs).map .agg
 | .cT cs=>(L9 aH bx cs).map .cT
 | .sl e _ rows=>aa (.sl e EC rows)
 | .own t e off len _ _=>match aH[t]? with
  |some (.arr _ rows)=>aa (.sl e EC ((rows.drop off).take len))
  |_=>Ie
 | .ptr t _ row off=>match aH[t]? with
  |some (.box _)=>if WF row 0 then(bx t).map (.cj · off)else Ie
  |some (.arr _ rows)=>rows[row]?.map (.cj · off)
  |_=>Ie
 | .cj cs off=>(L9 aH bx cs).map (.cj · off)
 | .mp _=>Ie
 | .fY f a b=>match L9 aH bx a,L9 aH bx b with
  |some a',aa b'=>aa (.fY f a' b')
  |_,_=>Ie
 | .fC=>aa .fC
def L9(aH:dp)(bx:Nat->O (J PV)):J PV->O (J PV)
 | []=>aa []
 |x::xs=>match JD aH bx x,L9 aH bx xs with
  |some y,aa ys=>aa (y::ys)
  |_,_=>Ie
end
def JE(aH:dp):Nat->Nat->O (J PV)
 |0,_=>Ie
 |n+1,t=>match aH[t]? with
  |some (.box cs)=>L9 aH (JE aH n) cs
  |_=>Ie
mutual
def np(bx:Nat->J Nat):PV->J Nat
 | .agg cs=>gJ bx cs
 | .cT cs=>gJ bx cs
 | .own t _ _ _ _ _=>[t]
 | .ptr t _ _ _=>t::bx t
 | .cj cs _=>gJ bx cs
 | .mp t=>[t]
 | .fY _ a b=>gJ bx a++gJ bx b
 | .undef| .oI| .int _ _| .bool _| .str _| .sl .. | .fC=>[]
def gJ(bx:Nat->J Nat):J PV->J Nat
 | []=>[]
 |x::xs=>np bx x++gJ bx xs
end
def BU(_:Nat):J Nat:=[]
def kq(aH:dp):Nat->Nat->J Nat
 |0,_=>[]
 |n+1,t=>match aH[t]? with
  |some (.box cs)=>gJ (kq aH n) cs
  |_=>[]
mutual
def PV.tg:PV->Bool
 | .int _ _| .bool _| .str _=>Pd
 | .agg cs=>CN cs
 | .cT cs=>CN cs
 |_=>EC
def CN:J PV->Bool
 | []=>Pd
 |x::xs=>x.tg&&CN xs
end
mutual
def H7(aH:dp):PV->O PV
 | .int k n=>aa (.int k n)
 | .bool b=>aa (.bool b)
 | .str s=>aa (.str s)
 | .agg cs=>(Qy aH cs).map .agg
 | .cT cs=>(Qy aH cs).map .cT
 | .sl e _ rows=>aa (.sl e EC rows)
 | .own t e off len _ _=>match aH[t]? with
  |some (.arr _ rows)=>aa (.sl e EC ((rows.drop off).take len))
  |_=>Ie
 |_=>Ie
def Qy(aH:dp):J PV->O (J PV)
 | []=>aa []
 |x::xs=>match H7 aH x,Qy aH xs with
  |some y,aa ys=>aa (y::ys)
  |_,_=>Ie
end
mutual
def H8(aH:dp)(fz:J Nat):Nat->J Nat->PV->O (PV×dp×J Nat)
 |_,seen,.int k n=>aa (.int k n,[],seen)
 |_,seen,.bool b=>aa (.bool b,[],seen)
 |nx,seen,.agg cs=>(Qz aH fz nx seen cs).map λr=>(.agg r.1,r.2)
 |nx,seen,.cT cs=>(Qz aH fz nx seen cs).map λr=>(.cT r.1,r.2)
 |nx,seen,.sl e Pd []=>aa (.own nx e 0 0 0 EC,[.arr e []],seen)
 |nx,seen,.own t e off len cap _=>match aH[t]? with
  |some (.arr e' rows)=>if has seen t||has fz t then Ie else aa (.own nx e off len cap EC,[.arr e' rows],t::seen)
  |_=>Ie
 |_,_,_=>Ie
def Qz(aH:dp)(fz:J Nat):Nat->J Nat->J PV->O (J PV×dp×J Nat)
 |_,seen,[]=>aa ([],[],seen)
 |nx,seen,x::xs=>match H8 aH fz nx seen x with
  |some (y,n1,amF)=>match Qz aH fz (nx+hl n1) amF xs with
   |some (ys,n2,amG)=>aa (y::ys,n1++n2,amG)
   |none=>Ie
  |none=>Ie
end
def yH:pT->J Nat
 | .box cs=>gJ BU cs
 |_=>[]
def reach(aH:dp):Nat->J Nat->J Nat->O (J Nat)
 |_,[],seen=>aa seen
 |0,_::_,_=>Ie
 |n+1,t::ts,seen=>
  if has seen t then reach aH n ts seen
  else match aH[t]? with
   |some b=>reach aH n (yH b++ts) (seen++[t])
   |none=>Ie
def idxOf(t:Nat):J Nat->O Nat
 | []=>Ie
 |s::r=>if WF s t then aa 0 else(idxOf t r).map (· +1)
mutual
def tj(m:J Nat):PV->O PV
 | .agg cs=>(Gz m cs).map .agg
 | .cT cs=>(Gz m cs).map .cT
 | .own t e off len cap ex=>(idxOf t m).map λu=> .own u e off len cap ex
 | .ptr t e row off=>(idxOf t m).map λu=> .ptr u e row off
 | .cj cs off=>(Gz m cs).map (.cj · off)
 | .mp t=>(idxOf t m).map .mp
 | .fY f a b=>match Gz m a,Gz m b with
  |some a',aa b'=>aa (.fY f a' b')
  |_,_=>Ie
 | .undef=>aa .undef
 | .oI=>aa .oI
 | .int k n=>aa (.int k n)
 | .bool b=>aa (.bool b)
 | .str s=>aa (.str s)
 | .sl e c rows=>aa (.sl e c rows)
 | .fC=>aa .fC
def Gz(m:J Nat):J PV->O (J PV)
 | []=>aa []
 |x::xs=>match tj m x,Gz m xs with
  |some y,aa ys=>aa (y::ys)
  |_,_=>Ie
end
def uF(m:J Nat):pT->O pT
 | .box cs=>(Gz m cs).map .box
 | .arr e rows=>aa (.arr e rows)
 | .map es=>aa (.map es)
 | .dead=>aa .dead
def Es(aH:dp)(m:J Nat):J Nat->O dp
 | []=>aa []
 |t::ts=>match aH[t]? with
  |some b=>match uF m b,Es aH m ts with
   |some b',aa r=>aa (b'::r)
   |_,_=>Ie
  |none=>Ie
def Et(fz:J Nat):Nat->J Nat->J Nat
 |_,[]=>[]
 |i,t::ts=>if has fz t then i::Et fz (i+1) ts else Et fz (i+1) ts
def O':O Nat->PV->PV
 |some _,.own t e off len cap _=> .own t e off len cap EC
 |_,v=>v
def As(e:Env)(m:J Nat):Nat->J (Nat×O Nat)->O (Env×dp)
 |_,[]=>aa ([],[])
 |nx,(s,k)::r=>
  match k,lk s e with
  |some aT,.sl _ Pd []=>(As e m (nx+1) r).map λp=>((s,.own nx aT 0 0 0 EC)::p.1,.arr aT []::p.2)
  |_,v=>match tj m v,As e m nx r with
   |some v',aa p=>aa ((s,O' k v')::p.1,p.2)
   |_,_=>Ie
def BV:Nat->J Nat
 |0=>[]
 |n+1=>BV n++[n]
def yI(st:St)(t c aT:Nat):St:=
 match st.aH[t]? with
 |some (.box cs)=>match cs[c]? with
  |some (.sl _ Pd [])=>{st with aH:=st.aH.set t (.box (cs.set c (.own (hl st.aH) aT 0 0 0 EC)))++[.arr aT []]}
  |_=>st
 |_=>st
def L':PV->O Nat
 | .ptr t _ 0 0=>aa t
 |_=>Ie
def Sp:PV->O Nat
 | .fY _ _ (x::_)=>L' x
 |x=>L' x
def qe:J (Nat×O Nat)->St->St
 | [],st=>st
 |(s,k)::r,st=>match k with
  |some n=>if YG 1000 n then(match Sp (lk s st.env)with
   |some t=>qe r (yI st t (n / 1000-1) (n%1000))
   |none=>qe r st)else qe r st
  |none=>qe r st
def Pa(live:J (Nat×O Nat))(st:St):O St:=
 match reach st.aH 4096 ((st.aH.take st.kn).flatMap yH++live.flatMap λp=>np BU (lk p.1 st.env)) (BV st.kn)with
 |none=>Ie
 |some m=>match Es st.aH m m,As st.env m (hl m) live with
  |some s1,aa (e1,s2)=>aa (qe live {env:=e1,aH:=s1++s2,fz:=Et st.fz 0 m,kn:=st.kn})
  |_,_=>Ie
def norm(live:J (Nat×O Nat))(st:St):O St:=
 match Pa live st with
 |some s=>if live.any λp=>p.2.isSome then Pa live s else aa s
 |none=>Ie
inductive Task where
 |func(f:FuncId)(args:List PV)(aH:dp)(fz:List Nat)
 |loop(live:List (Nat×Option Nat))(b:pg)(st:St)
inductive Out where
 |func(v:PV)(aH:dp)(fz:List Nat)
 |code(e:mM)(st:St)
structure Tr where
 rd:List Nat
 wr:List Nat
 hR3:Bool
 Sq:Bool
 cl:Bool
 lo:Nat
 N:Nat
inductive XR where
 |loc(r:v7)
 |shr(v:PV)(aH:dp)(fz:List Nat)
def mO:J (Nat×pT)->dp->dp
 | [],s=>s
 |(t,b)::r,s=>mO r (s.set t b)
def Ma:PV->Bool
 | .ptr .. =>Pd
 | .own .. =>Pd
 | .mp _=>Pd
 |_=>EC
def deep:Nat:=8
def iJ(W7:s9)(rec:Task->O Out)(own:Bool)(f:FuncId)(args:J PV)(aH:dp)(fz:J Nat):O v7:=
 match L9 aH (JE aH deep) args with
 |none=>Ie
 |some wa=>
  let tk:=gJ (kq aH deep) args
  match W7 f with
  |some (.p7 W6 p)=>match p wa with
   |some (v,news)=>match H8 news [] (hl aH) [] v with
    |some (v',n2,_)=>
     if W6 then match args with
      | .own t _ _ _ _ _::r=>
       let tr:=gJ (kq aH deep) r
       if has fz t||has tr t then Ie
       else aa {v:=v',news:=n2,wr:=[(t,.dead)],rd:=tr}
      |_=>Ie
     else aa {v:=v',news:=n2,rd:=tk}
    |none=>Ie
   |none=>Ie
  |_=>match rec (.func f wa [] [])with
   |some (.func v s1 z1)=>
    if own then match H8 s1 z1 (hl aH) [] v with
     |some (v',n2,_)=>aa {v:=v',news:=n2,rd:=tk}
     |none=>Ie
    else if v.tg then aa {v,rd:=tk}
    else match H7 s1 v with
     |some v'=>aa {v:=v',rd:=tk,fr:=tk}
     |none=>Ie
   |_=>Ie
def pT.cu:pT->Bool
 | .dead=>EC
 | .arr _ []=>EC
 |_=>Pd
def xG:J Nat->J Nat
 | []=>[]
 |t::r=>if has r t then xG r else t::xG r
mutual
def JF(g:Nat->Nat):PV->PV
 | .agg cs=> .agg (D4 g cs)
 | .cT cs=> .cT (D4 g cs)
 | .own t e off len cap ex=> .own (g t) e off len cap ex
 | .ptr t e row off=> .ptr (g t) e row off
 | .cj cs off=> .cj (D4 g cs) off
 | .mp t=> .mp (g t)
 | .fY f a b=> .fY f (D4 g a) (D4 g b)
 | .undef=> .undef
 | .oI=> .oI
 | .int k n=> .int k n
 | .bool b=> .bool b
 | .str s=> .str s
 | .sl e c rows=> .sl e c rows
 | .fC=> .fC
def D4(g:Nat->Nat):J PV->J PV
 | []=>[]
 |x::xs=>JF g x::D4 g xs
end
def GG(g:Nat->Nat):pT->pT
 | .box cs=> .box (D4 g cs)
 |b=>b
def Ib(g:Nat->Nat):dp->dp
 | []=>[]
 |b::r=>GG g b::Ib g r
def oT(tk:J Nat)(n u:Nat):Nat:=
 match tk[u]? with
 |some t=>t
 |none=>n+(u-(hl tk))
def wk(g:Nat->Nat):J Nat->dp->J (Nat×pT)
 |t::r,b::s=>(t,GG g b)::wk g r s
 |_,_=>[]
def CO:dp->dp->Bool
 | [],_=>Pd
 |b::r,c::q=>(match b.cu,c.cu with|true,Pd=>Pd|false,EC=>Pd|_,_=>EC)&&CO r q
 |_::_,[]=>EC
def Ub(args:J PV)(aH:dp)(fz:J Nat)(tk:J Nat):O (J PV×dp):=
 if tk.all λt=>!has fz t then
  match Gz tk args,Es aH tk tk with
  |some a,aa s=>aa (a,s)
  |_,_=>Ie
 else Ie
def lM(k:Nat)(v:PV)(s:dp):Bool:=(np BU v++(s.take k).flatMap yH).all λt=>KL t k
def Mb(tk:J Nat)(n:Nat)(s0:dp)(v:PV)(s:dp):O v7:=
 if CO s0 s then aa {v:=JF (oT tk n) v,news:=if lM (hl tk) v s then []else Ib (oT tk n) (s.drop (hl tk)),wr:=wk (oT tk n) tk s}else Ie
def Bi(rec:Task->O Out)(f:FuncId)(args:J PV)(aH:dp)(fz:J Nat):O v7:=
 match Ub args aH fz (xG (gJ (kq aH deep) args))with
 |none=>Ie
 |some (a,s0)=>match rec (.func f a s0 [])with
  |some (.func v s [])=>Mb (xG (gJ (kq aH deep) args)) (hl aH) s0 v s
  |_=>Ie
def kr(rec:Task->O Out)(f:FuncId)(args:J PV)(aH:dp)(fz:J Nat):O XR:=
 match rec (.func f args aH fz)with
 |some (.func v s z)=>if YG (hl aH) (hl s)&&fz.all (has z)then aa (.shr v s z)else Ie
 |_=>Ie
def FJ(W7:s9)(rec:Task->O Out)(e:Env)(aH:dp)(fz:J Nat):qd->O XR
 | .call m f args=>match m with
  | .Zh=>(iJ W7 rec EC f (U8 e args) aH fz).map .loc
  | .own=>(iJ W7 rec Pd f (U8 e args) aH fz).map .loc
  | .shr=>kr rec f (U8 e args) aH fz
  | .fp=>(Bi rec f (U8 e args) aH fz).map .loc
 | .D3 x args=>match x.ev e with
  | .fY f a b=>
   if(U8 e args++b).any Ma then kr rec f (a++U8 e args++b) aH fz
   else(iJ W7 rec EC f (a++U8 e args++b) aH fz).map .loc
  |_=>Ie
 |op=>(cd e aH fz op).map .loc
def oU(d:O Nat)(v:PV)(e:Env):Env:=
 match d with
 |some t=>(t,v)::e
 |none=>e
def BW(s:dp):J pT->dp
 | []=>s
 |b::r=>s++b::r
theorem Au(s:dp)(l:J pT):BW s l=s++l:=by
 cases l
 ·exact(List.append_nil s).symm
 rfl
def XR.next(d:O Nat)(st:St):XR->St
 | .loc r=>{env:=oU d r.v st.env,aH:=BW (mO r.wr st.aH) r.news,fz:=r.fr++st.fz,kn:=st.kn}
 | .shr v s z=>{env:=oU d v st.env,aH:=s,fz:=z,kn:=st.kn}
def XR.tr(nx:Nat):XR->Tr
 | .loc r=>⟨r.rd++r.fr,r.wr.map (·.1),!r.news.isEmpty,EC,(r.rd++r.fr).all (KL · nx)&&r.wr.all (λp=>KL p.1 nx),nx,nx+hl r.news⟩
 | .shr .. =>⟨[],[],Pd,Pd,Pd,0,0⟩
def CP:J (Nat×pT)->Bool
 | []=>Pd
 |p::r=>(r.all λq=>!Nat.beq q.1 p.1)&&CP r
def XR.ok(fz:J Nat):XR->Bool
 | .loc r=>(r.wr.all λp=>!has fz p.1)&&CP r.wr
 | .shr .. =>Pd
def Tr.idle:Tr:=⟨[],[],EC,EC,Pd,0,0⟩
def wanted(g:O (Nat×Bool))(e:Env):O Bool:=
 match g with
 |none=>aa Pd
 |some (s,want)=>match lk s e with
  | .bool b=>aa (b==want)
  | .oI=>aa EC
  |_=>Ie
def wb(W7:s9)(rec:Task->O Out):J dD->St->J Tr->O (St×J Tr)
 | [],st,tr=>aa (st,tr)
 |o::r,st,tr=>
  match wanted o.guard st.env with
  |some Pd=>match FJ W7 rec st.env st.aH st.fz o.op with
   |some x=>if x.ok st.fz then wb W7 rec r (x.next o.dst st) (x.tr (hl st.aH)::tr)else Ie
   |none=>Ie
  |some EC=>wb W7 rec r {st with env:=oU o.dst .oI st.env} (Tr.idle::tr)
  |none=>Ie
def meets(a b:J Nat):Bool:=a.any (has b)
def Tr.kV(a:Tr):Bool:=!a.rd.isEmpty||!a.wr.isEmpty||a.hR3||a.Sq
def Tr.BX (a b:Tr):Bool:=
 (a.Sq&&b.kV)||(b.Sq&&a.kV)||meets a.wr b.rd||meets a.wr b.wr||meets a.rd b.wr||
  b.wr.any fun t=>YG a.lo t&&KL t a.N
def CQ(rows:J Row):Bool:=rows.all λr=>WF (hl r) 1&&r.all PV.plain
def QA(args:J PV)(aH:dp)(fz:J Nat):O (PV×dp×J Nat):=
 match args with
 | [.own t e off len _ _]=>match aH[t]? with
  |some (.box [.sl e1 _ x,.sl e2 _ y])=>if WF e 1&&WF off 0&&WF len 2&&!has fz t&&CQ x&&CQ y&&YG 1 (hl x+hl y)&&YG (hl x+hl y) gX&&(WF e1 1||x.isEmpty)&&(WF e2 1||y.isEmpty)then
   aa (.own (hl aH) 1 0 (x++y).length (x++y).length EC,aH.set t .dead++[.arr 1 (x++y)],fz)
   else Ie
  |_=>Ie
 |_=>Ie
def QB(i:Nat)(a:Tr):J (Tr×Nat)->Bool
 | []=>Pd
 |(b,bf)::r=>(!a.BX b||bf.testBit i)&&QB i a r
def yJ:Nat->J (Tr×Nat)->Bool
 |_,[]=>Pd
 |i,(a,_)::r=>a.cl&&QB i a r&&yJ (i+1) r
def qf(W7:s9)(rec:Task->O Out)(draw:O (J Nat))(ops:J dD)(iH:J Nat)(st:St):O St:=
 match wb W7 rec ops st []with
 |none=>Ie
 |some (rT,tr)=>
  let Ap:St:={rT with env:=iH.map λs=>(s,lk s rT.env)}
  match draw with
  |none=>aa Ap
  |some bf=>if yJ 0 (tr.reverse.zip bf)then aa Ap else Ie
def BY(W7:s9)(rec:Task->O Out):pg->St->O (mM×St)
 | .skip,st=>aa (.normal,st)
 | .region d ops iH,st=>(qf W7 rec d ops iH st).map λs=>(.normal,s)
 | .seq a b,st=>match BY W7 rec a st with
  |some (.normal,rT)=>BY W7 rec b rT
  |r=>r
 | .cond c a b,st=>match c.ev st.env with
  | .bool Pd=>BY W7 rec a st
  | .bool EC=>BY W7 rec b st
  |_=>Ie
 | .block id b,st=>match BY W7 rec b st with
  |some (.exit j,rT)=>if WF j id then aa (.normal,rT)else aa (.exit j,rT)
  |r=>r
 | .loop live b,st=>match rec (.loop live b st)with
  |some (.code e rT)=>aa (e,rT)
  |_=>Ie
 | .exit id,st=>aa (.exit id,st)
 | .ret,st=>aa (.ret,st)
def Mc(st:St):RV->O PV
 | .tmp t=>aa (lk t st.env)
 | .cell t agg=>(v8 st.aH agg (lk t st.env)).map (·.v)
def uG(st:St):J RV->O (J PV)
 | []=>aa []
 |r::rs=>match Mc st r,uG st rs with
  |some v,aa vs=>aa (v::vs)
  |_,_=>Ie
def results1:J PV->PV
 | [v]=>v
 |vs=> .cT vs
def Eu:Nat->J PV->Env
 |_,[]=>[]
 |i,v::r=>(i,v)::Eu (i+1) r
def step(W7:s9)(rec:Task->O Out):Task->O Out
 | .func f args aH fz=>match W7 f with
  |some (.code x)=>
   if WF (hl args) x.Sn then
    match BY W7 rec x.code {env:=Eu 0 args,aH,fz,kn:=hl aH}with
    |some (.normal,st)=>(uG st x.res).map λvs=> .func (results1 vs) st.aH st.fz
    |some (.ret,st)=>(uG st x.res).map λvs=> .func (results1 vs) st.aH st.fz
    |_=>Ie
   else Ie
  |some (.OG p)=>(p args aH fz).map λr=> .func r.1 r.2.1 r.2.2
  |_=>Ie
 | .loop live b st=>match norm live st with
  |none=>Ie
  |some uz=>match BY W7 rec b uz with
   |some (.normal,Ap)=>rec (.loop live b Ap)
   |some (e,Ap)=>aa (.code e Ap)
   |none=>Ie
def iK(aT:Nat):J PV->O (PV×dp)
 | [.sl e _ rows]=>match rows with
  | []=>aa (.own 1 aT 0 0 0 EC,[.arr aT [],.arr aT []])
  |r::rs=>if WF e aT&&YG (hl rs+1) gX then aa (.own 1 aT 0 (0+(hl rs+1)) (0+(hl rs+1)) EC,[.arr aT [],.arr aT (r::rs)])else Ie
 |_=>Ie
def QC(aT:Nat)(args:J PV)(aH:dp)(fz:J Nat):O (PV×dp×J Nat):=
 match args with
 | [.own t e off len _ _,.int .i64 i,.own u e2 amH Sr _ _]=>
  match aH[t]?,aH[u]? with
  |some (.arr _ rows),aa (.arr _ new)=>
   if WF e aT&&WF e2 aT&&WF off 0&&WF amH 0&&WF len (hl rows)&&WF Sr 1&&WF (hl new) 1&&!Nat.beq t u&&!has fz t&&Pw (0<=i)&&YG i.toNat len&&YG (len+1) gX then
    aa (.own (hl aH) aT 0 (len+1) (len+1) EC,aH.set t .dead++[.arr aT (rows.take i.toNat++new++rows.drop i.toNat)],fz)
   else Ie
  |_,_=>Ie
 |_=>Ie
def Hd:J PV->O (PV×dp)
 | [.int .u64 (.ofNat a),.int .u64 (.ofNat b),.int .u64 (.ofNat c)]=>
  if YG c 1 then
   let s:=a+b+c
   aa (.cT [.int .u64 (.ofNat (s%18446744073709551616)),.int .u64 (.ofNat (s / 18446744073709551616))],[])
  else Ie
 |_=>Ie
noncomputable def run(W7:s9)(n:Nat):Task->O Out:=Nat.rec (λ_=>Ie) (λ_ ih=>step W7 ih) n
end Go.Vm
/- Rules for the logical machine: what more fuel keeps, and a calculus of its runs. -/
namespace Go.Vm
def Le(r s:Task->O Out):Prop:= ∀t o,r t=aa o->s t=aa o
structure Tk(W7 G:s9)(r:Task->Option Out):Prop where
 yes: ∀f e,W7 f=aa e->G f=aa e
 no: ∀f,W7 f=Ie->G f=Ie\/ ∀a,r (.func f a [] [])=Ie
theorem Tk.refl(W7:s9)(r:Task->O Out):Tk W7 W7 r:=⟨λ_ _ h=>h,λ_ h=> .inl h⟩
theorem Bj{W7 G:s9}{r s:Task->O Out}(g:Tk W7 G r)(h:Le r s){own:Bool}{f:FuncId}{args:J PV}{aH:dp}{fz:J Nat}{x:v7}
 (X:iJ W7 r own f args aH fz=aa x):iJ G s own f args aH fz=aa x:=by
 cases ha:L9 aH (JE aH deep) args with
 |none=>simp[iJ,ha]at X
 |some a=>
  simp[iJ,ha]at X ⊢;cases hp:W7 f with
  |none=>
   rw[hp]at X;cases hr:r (.func f a [] [])with
   |none=>grind
   |some o=>
    rw[hr]at X;rcases g.no f hp with hq|hq
    ·rw[hq];dsimp only;rw[h _ _ hr];exact X
    grind
  |some en=>
   rw[hp]at X;rw[g.yes f _ hp];cases en with
   |p7 k p=>exact X
   |code x=>
    cases hr:r (.func f a [] [])with
    |none=>grind
    |some o=>rw[hr]at X;rw[h _ _ hr];exact X
   |OG x=>
    cases hr:r (.func f a [] [])with
    |none=>grind
    |some o=>rw[hr]at X;rw[h _ _ hr];exact X
theorem aeE{r s:Task->O Out}(h:Le r s){f:FuncId}{args:J PV}{aH:dp}{fz:J Nat}{x:XR}
 (X:kr r f args aH fz=aa x):kr s f args aH fz=aa x:=by
 unfold kr at X ⊢;cases hr:r (.func f args aH fz)with
 |none=>grind
 |some o=>rw[hr]at X;rw[h _ _ hr];exact X
theorem hn3{r s:Task->O Out}(h:Le r s){f:FuncId}{args:J PV}{aH:dp}{fz:J Nat}{x:v7}
 (X:Bi r f args aH fz=aa x):Bi s f args aH fz=aa x:=by
 unfold Bi at X ⊢;cases I:Ub args aH fz _ with
 |none=>grind
 |some p=>
  rw[I]at X;dsimp only at X ⊢;cases hr:r (.func f p.1 p.2 [])with
  |none=>grind
  |some o=>rw[hr]at X;rw[h _ _ hr];exact X
theorem aeF{W7 G:s9}{r s:Task->O Out}(g:Tk W7 G r)(h:Le r s){e:Env}{aH:dp}{fz:J Nat}{op:qd}{x:XR}
 (X:FJ W7 r e aH fz op=aa x):FJ G s e aH fz op=aa x:=by
 cases op with
 |call m f args=>
  cases m with
  |Zh=>
   simp[FJ,]at X ⊢
   grind[Bj]
  |own=>
   simp[FJ,]at X ⊢
   grind[Bj]
  |shr=>exact aeE h X
  |fp=>
   simp[FJ,]at X ⊢
   grind[hn3]
 |D3 c args=>
  simp[FJ]at X ⊢;split at X
  ·split at X
   ·grind[aeE]
   rename_i hc
   rw[EQ hc]
   grind[If,Bj]
  cases X
 |_=>exact X
theorem aeL{W7 G:s9}{r s:Task->O Out}(g:Tk W7 G r)(h:Le r s)(ops:J dD):
 ∀(st:St) (tr:J Tr) (x:St×J Tr),wb W7 r ops st tr=aa x->wb G s ops st tr=aa x:=by
 induction ops with
 |nil=>intro st tr x X;exact X
 |cons o l ih=>
  intro st tr x X;simp[wb]at X ⊢
  grind[aeF]
theorem aj0{W7 G:s9}{r s:Task->O Out}(g:Tk W7 G r)(h:Le r s){d:O _}{ops:J dD}{iH:J Nat}{st rT:St}
 (X:qf W7 r d ops iH st=aa rT):qf G s d ops iH st=aa rT:=by
 unfold qf at X ⊢
 grind[aeL]
theorem BZ{W7 G:s9}{r s:Task->O Out}(g:Tk W7 G r)(h:Le r s)(c:pg):
 ∀(st:St) (x:mM×St),BY W7 r c st=aa x->BY G s c st=aa x:=by
 induction c with
 |skip=>intro st x X;exact X
 |region d ops iH=>
  intro st x X;simp[BY,]at X ⊢
  grind[aj0]
 |seq a b Nk PH=>
  intro st x X;simp[BY]at X ⊢
  grind
 |cond c a b Nk PH=>
  intro st x X;simp[BY]at X ⊢
  grind
 |block id b ih=>
  intro st x X;simp[BY]at X ⊢
  grind
 |loop live b _=>
  intro st x X;simp[BY]at X ⊢;split at X
  ·rename_i e uz hr;rw[h _ _ hr];exact X
  cases X
 |exit id=>intro st x X;exact X
 |ret=>intro st x X;exact X
theorem hLm{W7 G:s9}{r s:Task->O Out}(g:Tk W7 G r)(h:Le r s):Le (step W7 r) (step G s):=by
 intro t o ho;cases t with
 |func f args aH fz=>
  simp[step]at ho ⊢;split at ho
  ·rename_i x X
   rw[g.yes f _ X]
   grind[BZ]
  ·rename_i p X
   rw[g.yes f _ X];exact ho
  cases ho
 |loop live b st=>
  simp[step]at ho ⊢;split at ho
  ·cases ho
  split at ho
  ·rename_i Ap hc;rw[BZ g h _ _ _ hc];exact h _ _ ho
  ·grind[BZ]
  cases ho
theorem xH(W7:s9)(n:Nat):run W7 (n+1)=step W7 (run W7 n):=rfl
theorem aiW(W7:s9)(n:Nat):Le (run W7 n) (run W7 (n+1)):=by
 induction n with
 |zero=>intro t o h;cases h
 |succ n ih=>exact hLm (.refl _ _) ih
theorem B0(W7:s9){n m:Nat}(h:n<=m):Le (run W7 n) (run W7 m):=by
 induction h with
 |refl=>intro t o h;exact h
 |step _ ih=>intro t o h;exact aiW W7 _ _ _ (ih _ _ h)
def Fin(W7:s9)(t:Task)(Q:Out->Prop):Prop:= ∃n o,run W7 n t=aa o/\Q o
def WP(W7:s9)(c:pg)(st:St)(Q:mM->St->Prop):Prop:= ∃n e s,BY W7 (run W7 n) c st=aa (e,s)/\Q e s
def WO(W7:s9)(ops:J dD)(st:St)(tr:J Tr)(Q:St->J Tr->Prop):Prop:=
 ∃n s t,wb W7 (run W7 n) ops st tr=aa (s,t)/\Q s t
variable {W7 : s9}
theorem WP.skip{st:St}{Q:mM->St->Prop}(h:Q .normal st):WP W7 .skip st Q:=⟨0,_,_,rfl,h⟩
theorem WP.ret{st:St}{Q:mM->St->Prop}(h:Q .ret st):WP W7 .ret st Q:=⟨0,_,_,rfl,h⟩
theorem WP.exit{id:Nat}{st:St}{Q:mM->St->Prop}(h:Q (.exit id) st):WP W7 (.exit id) st Q:=⟨0,_,_,rfl,h⟩
def andThen(k:St->Prop)(Q:mM->St->Prop):mM->St->Prop
 | .normal,s=>k s
 |e,s=>Q e s
theorem WP.seq{a b:pg}{st:St}{Q:mM->St->Prop}(h:WP W7 a st (andThen (λs=>WP W7 b s Q) Q)):WP W7 (.seq a b) st Q:=by
 obtain⟨n,e,s,he,hq⟩:=h;cases e with
 |normal=>obtain⟨m,e',s',Sa,Y3⟩:=hq;refine⟨max n m,e',s',?_,Y3⟩;simp[BY];rw[BZ (.refl _ _) (B0 W7 (Zf n m)) _ _ _ he];exact BZ (.refl _ _) (B0 W7 (Mr n m)) _ _ _ Sa
 |exit i=>exact⟨n,_,s,by simp[BY,he],hq⟩
 |ret=>exact⟨n,_,s,by simp[BY,he],hq⟩
theorem WP.amI{c:jd}{a b:pg}{st:St}{Q:mM->St->Prop}(hc:c.ev st.env= .bool Pd)(h:WP W7 a st Q):WP W7 (.cond c a b) st Q:=by obtain⟨n,e,s,he,hq⟩:=h;exact⟨n,e,s,by simp[BY,hc,he],hq⟩
theorem WP.amJ{c:jd}{a b:pg}{st:St}{Q:mM->St->Prop}(hc:c.ev st.env= .bool EC)(h:WP W7 b st Q):WP W7 (.cond c a b) st Q:=by obtain⟨n,e,s,he,hq⟩:=h;exact⟨n,e,s,by simp[BY,hc,he],hq⟩
def inBlock(id:Nat)(Q:mM->St->Prop):mM->St->Prop
 | .exit j,s=>if j=id then Q .normal s else Q (.exit j) s
 |e,s=>Q e s
theorem WP.block{id:Nat}{b:pg}{st:St}{Q:mM->St->Prop}(h:WP W7 b st (inBlock id Q)):WP W7 (.block id b) st Q:=by
 obtain⟨n,e,s,he,hq⟩:=h;cases e with
 |normal=>exact⟨n,_,s,by simp[BY,he],hq⟩
 |ret=>exact⟨n,_,s,by simp[BY,he],hq⟩
 |exit j=>
  by_cases hj:j=id
  ·subst hj
   have Y3:Q .normal s:=by simpa[inBlock]using hq
   exact⟨n,.normal,s,by simp[BY,he],Y3⟩
  have Y3:Q (.exit j) s:=by simpa[inBlock,hj]using hq
  exact⟨n,.exit j,s,by simp[BY,he,hj],Y3⟩
def zq(iH:J Nat)(s:St):St:={s with env:=iH.map λt=>(t,lk t s.env)}
theorem WP.region{ops:J dD}{iH:J Nat}{st:St}{Q:mM->St->Prop}
 (h:WO W7 ops st [] (λs _=>Q .normal (zq iH s))):WP W7 (.region Ie ops iH) st Q:=by
 obtain⟨n,s,t,he,hq⟩:=h;exact⟨n,.normal,_,by simp[BY,qf,he];rfl,hq⟩
theorem WP.aeQ{bf:J Nat}{ops:J dD}{iH:J Nat}{st:St}{Q:mM->St->Prop}
 (h:WO W7 ops st [] (λs t=>yJ 0 (t.reverse.zip bf)=Pd/\Q .normal (zq iH s))):WP W7 (.region (aa bf) ops iH) st Q:=by
 obtain⟨n,s,t,he,ho,hq⟩:=h;exact⟨n,.normal,zq iH s,by simp[BY,qf,he,ho,zq],hq⟩
theorem WO.nil{st:St}{tr:J Tr}{Q:St->J Tr->Prop}(h:Q st tr):WO W7 [] st tr Q:=⟨0,_,_,rfl,h⟩
theorem WO.skip{o:dD}{r:J dD}{st:St}{tr:J Tr}{Q:St->J Tr->Prop}
 (hw:wanted o.guard st.env=aa EC)
 (h:WO W7 r {st with env:=oU o.dst .oI st.env} (Tr.idle::tr) Q):WO W7 (o::r) st tr Q:=by
 obtain⟨n,s,t,he,hq⟩:=h;exact⟨n,s,t,by simp[wb,hw,he],hq⟩
theorem WO.call{o:dD}{r:J dD}{st:St}{tr:J Tr}{Q:St->J Tr->Prop}(x:XR)
 (hw:wanted o.guard st.env=aa Pd) (X: ∃n,FJ W7 (run W7 n) st.env st.aH st.fz o.op=aa x) (GA:x.ok st.fz=Pd)
 (h:WO W7 r (x.next o.dst st) (x.tr (hl st.aH)::tr) Q):WO W7 (o::r) st tr Q:=by
 obtain⟨n,s,t,he,hq⟩:=h;obtain⟨m,X⟩:=X;refine⟨max n m,s,t,?_,hq⟩;simp[wb,hw];rw[aeF (.refl _ _) (B0 W7 (Mr n m)) X];dsimp only;rw[Do GA];exact aeL (.refl _ _) (B0 W7 (Zf n m)) _ _ _ _ he
def aaD(x:ay)(R:PV->dp->J Nat->Prop):mM->St->Prop
 | .normal,s=> ∃vs,uG s x.res=aa vs/\R (results1 vs) s.aH s.fz
 | .ret,s=> ∃vs,uG s x.res=aa vs/\R (results1 vs) s.aH s.fz
 | .exit _,_=>False
def OI(W7:s9)(f:FuncId)(args:J PV)(aH:dp)(fz:J Nat)(R:PV->dp->J Nat->Prop):Prop:=
 ∃n v s z,run W7 n (.func f args aH fz)=aa (.func v s z)/\R v s z
theorem OI.of{f:FuncId}{x:ay}{args:J PV}{aH:dp}{fz:J Nat}{R:PV->dp->J Nat->Prop}
 (hf:W7 f=aa (.code x)) (hn:WF (hl args) x.Sn=Pd)
 (h:WP W7 x.code {env:=Eu 0 args,aH,fz,kn:=hl aH} (aaD x R)):OI W7 f args aH fz R:=by
 obtain⟨n,e,s,he,hq⟩:=h;cases e with
 |normal=>obtain⟨vs,hv,hr⟩:=hq;exact⟨n+1,_,_,_,by rw[xH];simp only[step,hf,hn,he,hv,];rfl,hr⟩
 |ret=>obtain⟨vs,hv,hr⟩:=hq;exact⟨n+1,_,_,_,by rw[xH];simp only[step,hf,hn,he,hv,];rfl,hr⟩
 |exit i=>exact hq.elim
end Go.Vm
/- The look at an operation of the model: is the logical machine's operation its own? -/
namespace Go.Vm
mutual
def Bk:PV->Value->Bool
 | .int k n,.int l m=>iA k l&&n==m
 | .bool a,.bool b=>a==b
 | .sl _ _ [],.slice Ie 0 0=>Pd
 | .agg cs,.agg vs=>Me cs vs.toList
 | .fC,.nilFunc=>Pd
 | .str s,.string t=>s.data.toList==t.data.toList
 | .undef,_=>Pd
 |_,_=>EC
def Me:J PV->J Value->Bool
 | [],[]=>Pd
 |x::xs,v::vs=>Bk x v&&Me xs vs
 |_,_=>EC
end
def bT:jd->Operand->Bool
 | .t n,.tmp m=>n==m
 | .c v,.const u=>Bk v u
 | .c (.fY f [] []),.func g=>f==g
 | .c .undef,_=>Pd
 |_,_=>EC
def gY:J jd->J Operand->Bool
 | [],[]=>Pd
 |x::xs,o::os=>bT x o&&gY xs os
 |_,_=>EC
def QD:O jd->O Operand->Bool
 |none,Ie=>Pd
 |some x,aa o=>bT x o
 |_,_=>EC
section
variable (P : Program)
def kv(t:TypeId):Bool:=
 match P.underlying t with
 |some (.struct _)|some (.array _ _)=>Pd
 |_=>EC
def vY(t:TypeId)(n:Nat):Bool:=(P.info? t).any λi=>i.size==n
def LH(t:TypeId):Bool:=(P.info? t).any λi=>YG i.bytes 1048576
def Ic(t:TypeId)(agg:O Nat):Bool:=
 (P.underlying t).isSome&&match agg with
 |some n=>kv P t&&vY P t n
 |none=>!kv P t&&vY P t 1
def FK(t:TypeId)(aT:Nat):Bool:=
 match P.underlying t with
 |some (.slice e)=>vY P e aT
 |_=>EC
def zt(t:TypeId):Bool:=
 match P.underlying t with
 |some (.slice _)=>Pd
 |_=>EC
def aeX(t:TypeId)(n aT:Nat):Bool:=
 match P.underlying t with
 |some (.array m e)=>m==n&&vY P e aT
 |_=>EC
def Bl(t:TypeId)(cells:J PV):Bool:=
 match(P.info? t).bind (·.zero)with
 |some v=>Me cells v.cells.toList
 |none=>EC
def flat:Nat->TypeId->O Nat
 |0,_=>Ie
 |d+1,t=>
  match P.underlying t with
  |some (.int _)=>if vY P t 1 then aa 1 else Ie
  |some (.struct fs)=>
   if P.stoodInHeld t then Ie else
   match fs.toList.foldl (λr f=>match r with
    |some n=>if f.offset==n&&f.name != "_" then(match flat d f.type with
     |some m=>if vY P f.type m then aa (n+m)else Ie
     |none=>Ie)else Ie
    |none=>Ie) (aa 0)with
   |some n=>if vY P t n then aa n else Ie
   |none=>Ie
  |_=>Ie
def U9(t:TypeId)(n:Nat):Bool:=flat P 100 t==aa n
def B2(place:Nat->O (Nat×Nat)):J (Nat×Nat×jd)->J (Nat×Operand)->Bool
 | [],[]=>Pd
 |(off,sz,x)::r,(i,o)::s=>(match place i with|some (a,b)=>a==off&&b==sz|none=>EC)&&bT x o&&B2 place r s
 |_,_=>EC
def tu:J (Nat×jd)->J (Nat×Operand)->Bool
 | [],[]=>Pd
 |(i,x)::r,(j,o)::s=>i==j&&bT x o&&tu r s
 |_,_=>EC
def placeOf(t:TypeId):Nat->O (Nat×Nat):=
 match P.underlying t with
 |some (.struct fs)=>λi=>(fs[i]?).bind λf=>(P.info? f.type).map λj=>(f.offset,j.size)
 |some (.array _ e)=>λi=>(P.info? e).map λj=>(i*j.size,j.size)
 |_=>λ_=>Ie
def Ew(t:TypeId)(n:O Nat):Bool:=
 match n with
 |none=>(match P.underlying t with|some (.int _)=>Pd|_=>EC)
 |some n=>kv P t&&flat P 100 t==aa n
def aeR(f:FuncId):Bool:=(P.funcs[f]?).any λfn=>fn.body.isSome&&!(fn.name== "runtime.NumGoroutine")
def D6(prims:FuncId->Bool)(ty:TypeId):qd->Op->Bool
 | .SP x,.move o=>bT x o
 | .SP x,.assign o=>bT x o
 | .pick c a b,.pick d e f=>bT c d&&bT a e&&bT b f
 | .bin op x y,.binOp bh _ a b _=>op==bh&&bT x a&&bT y b
 | .Si neg x y,.binOp op t a b _=>(if neg then op== .neq else op== .eql)&&P.underlying t matches aa .bool&&bT x a&&bT y b
 | .MV n neg x y,.binOp op t a b _=>(if neg then op== .neq else op== .eql)&&kv P t&&U9 P t n&&!P.eqGuardType P.depth t&&bT x a&&bT y b
 | .un op x,.unOp bh _ a=>op==bh&&bT x a
 | .conv k x,.convert s d a=>(P.underlying s).isSome&&(match P.underlying d with|some (.int l)=>iA k l|_=>EC)&&bT x a
 | .len x,.call {callee:= .builtin .len,args,argTypes}=>(match argTypes[0]? with|some t=>zt P t|none=>EC)&&gY [x] args.toList
 | .U7 n,.call {callee:= .builtin .len,args,argTypes}=>!args.isEmpty&&(match argTypes[0]? with
  |some t=>(match P.underlying t with
   |some (.array m _)=>m==n
   |some (.pointer e)=>(match P.underlying e with|some (.array m _)=>m==n|_=>EC)
   |_=>EC)
  |none=>EC)
 | .box x,.box _ a=>bT x a
 | .alloc cells,.alloc t=>Bl P t cells
 | .build zero parts,.build t ps=>Bl P t zero&&kv P t&&B2 (placeOf P t) parts ps.toList
  &&(match P.underlying t with|some (.struct fs)=>fs.all λf=>(P.info? f.type).isSome|some (.array _ e)=>(P.info? e).isSome|_=>EC)
 | .Ia aT n zero parts,.buildSlice t m ps=>n==m&&(match P.underlying t with|some (.slice e)=>vY P e aT&&Bl P e zero&&(hl zero)==aT&&!(aT==0)|_=>EC)&&YG (n*aT) 1048576&&zero.all PV.plain&&tu parts ps.toList
 | .load agg p,.load t a=>Ic P t agg&&bT p a
 | .store sz p v,.store t a b=>vY P t sz&&bT p a&&bT v b
 | .Sj x,.nilCheck a=>bT x a
 | .Sk off p,.fieldAddr t a f=>(match P.underlying t with
  |some (.struct fs)=>(match fs[f]? with|some g=>g.offset==off&&(P.info? g.type).any λi=>!(i.size==0)|none=>EC)
  |_=>EC)&&bT p a
 | .fD agg off x,.field t a f=>(match P.underlying t with
  |some (.struct fs)=>(match fs[f]? with|some g=>g.offset==off&&Ic P g.type agg|none=>EC)
  |_=>EC)&&bT x a
 | .Sl aT x i,.indexAddr t a j=>FK P t aT&&bT x a&&bT i j
 | .KH n aT p i,.indexAddr t a j=>aeX P t n aT&&bT p a&&bT i j
 | .idx n aT agg x i,.index t a j=>(match P.underlying t with|some (.array m e)=>m==n&&vY P e aT&&Ic P e agg|_=>EC)&&bT x a&&bT i j
 | .Sm x i,.index t a j=>P.underlying t matches aa .string&&bT x a&&bT i j
 | .Yx aT x l h m,.slice t a b c d=>(m.isNone||h.isSome)&&FK P t aT&&bT x a&&QD l b&&QD h c&&QD m d
 | .mo aT zero l c,.makeSlice t a b=>(match P.underlying t with|some (.slice e)=>vY P e aT&&Bl P e zero&&(hl zero)==aT&&LH P e&&!(aT==0)|_=>EC)&&zero.all PV.plain&&bT l a&&bT c b
 | .km fn a b,.makeFunc (.func g) c d=>fn==g&&gY a c.toList&&gY b d.toList
 | .MW _,.makeMap _ Ie=>Pd
 | .ext i x,.extract a j=>i==j&&bT x a
 | .append aT x y,.call {callee:= .builtin .append,args,argTypes}=>(match argTypes.toList with
  | [t,u]=>(match P.underlying t with|some (.slice e)=>vY P e aT&&LH P e&&!(aT==0)&&(P.info? e).any (λi=>i.zero.any λz=>z.cells.size==aT)|_=>EC)&&zt P u
  |_=>EC)&&gY [x,y] args.toList
 | .lookup n zero ok m k,.lookup t a b ok'=>ok==ok'&&(match P.underlying t with|some (.map kt et)=>Ew P kt n&&(match(P.info? et).bind (·.zero)with|some v=>Bk zero v|none=>EC)|_=>EC)&&bT m a&&bT k b
 | .Qx n m k v,.mapUpdate t a b c=>(match P.underlying t with|some (.map kt _)=>Ew P kt n|_=>EC)&&bT m a&&bT k b&&bT v c
 | .copy aT x y,.call {callee:= .builtin .copy,args,argTypes}=>(match argTypes.toList with| [t,u]=>FK P t aT&&zt P u|_=>EC)&&gY [x,y] args.toList
 | .clear aT zero x,.call {callee:= .builtin .clear,args,argTypes}=>(match argTypes.toList with
  | [t]=>(match P.underlying t with|some (.slice e)=>vY P e aT&&Bl P e zero&&(hl zero)==aT&&zero.all PV.plain|_=>EC)
  |_=>EC)&&gY [x] args.toList
 | .mm uE x xs,.call {callee:= .builtin b,args,argTypes:=_}=>(if uE then b== .max else b== .min)&&gY (x::xs) args.toList
 | .call _ f args,.call {callee:= .value (.func g),args:=as,argTypes:=_}=>f==g&&(prims f||aeR P f)&&gY args as.toList
 | .D3 x args,.call {callee:= .value (.tmp t),args:=as,argTypes:=_}=>bT x (.tmp t)&&gY args as.toList
 | .KG x y,.buildSlice t m ps=>m==2&&(match P.underlying t with|some (.slice e)=>vY P e 1&&(P.info? e).any (λi=>i.zero.any λz=>z.cells.size==1)|_=>EC)&&(match ps.toList with| [(i,a),(j,b)]=>i==0&&j==1&&bT x a&&bT y b|_=>EC)
 | .Qx n m k v,.insert t a b c=>(match P.underlying t with|some (.map kt _)=>Ew P kt n|_=>EC)&&bT m a&&bT k b&&bT v c
 | .bad,_=>Pd
 |_,_=>ty==0&&EC
end
end Go.Vm
/- What a pure value says of a value of the model, a block of the call's own of the memory. -/
namespace Go.Vm
structure Tape(w w':World):Prop where
 eq:w'.tape=w.tape
 dr:w.drawn<=w'.drawn
theorem Tape.refl(w:World):Tape w w:=⟨rfl,Pc _⟩
theorem Tape.trans{a b c:World}(S:Tape b c)(D:Tape a b):Tape a c:=⟨S.eq.trans D.eq,Ss D.dr S.dr⟩
theorem Tape.same{w w':World}(h:w'.tape=w.tape)(k:w'.drawn=w.drawn):Tape w w':=⟨h,by omega⟩
structure LI where
 eK:Nat
 sh:Nat
 aT:Nat
 n:Nat
 sz:Nat
abbrev Im:=Nat->O Obj
abbrev Loc:=Nat->O LI
def wm(im:Im)(b o:Nat):O Value:=
 match im b with
 |some (.cells c _ _)=>c[o]?
 |_=>Ie
def ob:PV->O Value
 | .int k n=>aa (.int k n)
 | .bool b=>aa (.bool b)
 | .str s=>aa (.string s)
 |_=>Ie
def cw(get:Nat->O Value)(sh aT:Nat)(rows:J Row):Prop:=
 ∀(i:Nat) (r:Row),rows[i]? =aa r->hl r=aT/\ ∀(j:Nat) (c:PV),r[j]? =aa c-> ∃v,ob c=aa v/\get (sh+i*aT+j)=aa v
mutual
inductive VR(im:Im)(loc:Loc):PV->Value->Prop
 |undef(v:Value):VR im loc .undef v
 |oI:VR im loc .oI Go.undef
 |int(k:IntKind)(n:Int):VR im loc (.int k n) (.int k n)
 |bool(b:Bool):VR im loc (.bool b) (.bool b)
 |str(s:ByteArray):VR im loc (.str s) (.string s)
 |agg(cs:List PV)(vs:List Value)(h:gW im loc cs vs):VR im loc (.agg cs) (.agg ⟨vs⟩)
 |cT(cs:List PV)(vs:List Value)(h:gW im loc cs vs):VR im loc (.cT cs) (.tuple ⟨vs⟩)
 |sl(aT:Nat)(yg:Bool)(rows:List Row)(a:Option Addr)(cap:Nat)(hc:(hl rows)<=cap)(hk:yg=Pd->cap=hl rows)
  (h:rows≠[]-> ∃b o,a=aa ⟨b,o,Ie⟩/\cw (wm im b) o aT rows):VR im loc (.sl aT yg rows) (.slice a (hl rows) cap)
 |own(t aT off len cap:Nat)(ex:Bool)(li:LI)(a:Option Addr)(eL:Nat)(I:loc t=aa li)(he:li.aT=aT)(hn:off+cap<=li.n)(hc:len<=cap)
  (X:cap<=eL) (hk:ex=Pd->eL=cap)
  (h:eL=0\/(li.n≠0/\a=aa ⟨li.eK,li.sh+off*aT,Ie⟩/\li.sh+(off+eL)*aT<=li.sz)):VR im loc (.own t aT off len cap ex) (.slice a len eL)
 |ptr(t aT row off:Nat)(li:LI)(I:loc t=aa li)(he:li.aT=aT)(hn:row<li.n):
  VR im loc (.ptr t aT row off) (.pointer (aa ⟨li.eK,li.sh+row*aT+off,Ie⟩))
 |cj(cs:List PV)(off b o:Nat)(vs:List Value)(h:gW im loc cs vs)(hv: ∀(j:Nat) (v:Value),vs[j]? =aa v->wm im b (o+j)=aa v):
  VR im loc (.cj cs off) (.pointer (aa ⟨b,o+off,Ie⟩))
 |mp(t:Nat)(li:LI)(I:loc t=aa li):VR im loc (.mp t) (.map (aa li.eK))
 |fY(fn:FuncId)(a b:List PV)(as bs:List Value)(ha:gW im loc a as)(hb:gW im loc b bs):VR im loc (.fY fn a b) (.func (.func fn) ⟨as⟩ ⟨bs⟩)
 |fC:VR im loc .fC .nilFunc
inductive gW(im:Im)(loc:Loc):List PV->List Value->Prop
 |nil:gW im loc [] []
 |cons(x:PV)(v:Value)(xs:List PV)(vs:List Value)(h:VR im loc x v)(hs:gW im loc xs vs):gW im loc (x::xs) (v::vs)
end
def uH(im fZ:Im):Prop:= ∀b o,im b=aa o->fZ b=aa o
def rD(loc bK:Loc):Prop:= ∀t li,loc t=aa li->bK t=aa li
theorem uH.refl(im:Im):uH im im:=λ_ _ h=>h
theorem uH.trans{a b c:Im}(h:uH a b)(k:uH b c):uH a c:=λx o e=>k x o (h x o e)
theorem rD.refl(loc:Loc):rD loc loc:=λ_ _ h=>h
theorem rD.trans{a b c:Loc}(h:rD a b)(k:rD b c):rD a c:=λx o e=>k x o (h x o e)
theorem uH.cell{im fZ:Im}(h:uH im fZ){b o:Nat}{v:Value}(hc:wm im b o=aa v):wm fZ b o=aa v:=by
 unfold wm at hc ⊢;cases hb:im b with
 |none=>grind
 |some x=>rw[hb]at hc;rw[h b x hb];exact hc
theorem cw.mono{g aeY:Nat->O Value}{sh aT:Nat}{rows:J Row}(h:cw g sh aT rows)(hg: ∀k v,g k=aa v->aeY k=aa v):
 cw aeY sh aT rows:=by
 intro i r hr;obtain⟨D,S⟩:=h i r hr
 grind
mutual
theorem VR.mono{im fZ:Im}{loc bK:Loc}(N:uH im fZ)(I:rD loc bK): ∀{x:PV} {v:Value},VR im loc x v->VR fZ bK x v
 |_,_,.undef v=> .undef v
 |_,_,.oI=> .oI
 |_,_,.int k n=> .int k n
 |_,_,.bool b=> .bool b
 |_,_,.str s=> .str s
 |_,_,.agg cs vs h=> .agg cs vs (gW.mono N I h)
 |_,_,.cT cs vs h=> .cT cs vs (gW.mono N I h)
 |_,_,.sl aT yg rows a cap hc hk h=> .sl aT yg rows a cap hc hk λfk=>let ⟨b,o,ha,hr⟩:=h fk;⟨b,o,ha,hr.mono λ_ _ e=>N.cell e⟩
 |_,_,.own t aT off len cap ex li a eL D S h3 h4 h5 h6 h7=> .own t aT off len cap ex li a eL (I _ _ D) S h3 h4 h5 h6 h7
 |_,_,.ptr t aT row off li D S h3=> .ptr t aT row off li (I _ _ D) S h3
 |_,_,.cj cs off b o vs h hv=> .cj cs off b o vs (gW.mono N I h) λj v e=>N.cell (hv j v e)
 |_,_,.mp t li h=> .mp t li (I _ _ h)
 |_,_,.fY fn a b as bs ha hb=> .fY fn a b as bs (gW.mono N I ha) (gW.mono N I hb)
 |_,_,.fC=> .fC
theorem gW.mono{im fZ:Im}{loc bK:Loc}(N:uH im fZ)(I:rD loc bK): ∀{x:J PV} {v:J Value},gW im loc x v->gW fZ bK x v
 |_,_,.nil=> .nil
 |_,_,.cons x v xs vs h hs=> .cons x v xs vs (VR.mono N I h) (gW.mono N I hs)
end
theorem gW.sG{im:Im}{loc:Loc}: ∀{x:J PV} {v:J Value},gW im loc x v->hl x=hl v
 |_,_,.nil=>rfl
 |_,_,.cons _ _ _ _ _ hs=>by simp[hs.sG]
theorem gW.get{im:Im}{loc:Loc}: ∀{xs:J PV} {vs:J Value},gW im loc xs vs-> ∀(i:Nat) (x:PV),xs[i]? =aa x-> ∃v,vs[i]? =aa v/\VR im loc x v
 |_,_,.nil,i,x,h=>by simp at h
 |_,_,.cons y v xs vs h hs,0,x,e=>by grind
 |_,_,.cons y v xs vs h hs,i+1,x,e=>by
  obtain⟨u,hu,hr⟩:=hs.get i x (by simpa using e)
  grind
theorem gW.append{im:Im}{loc:Loc}: ∀{xs:J PV} {vs:J Value},gW im loc xs vs-> ∀{ys:J PV} {us:J Value},gW im loc ys us->gW im loc (xs++ys) (vs++us)
 |_,_,.nil,_,_,k=>k
 |_,_,.cons y v xs vs h hs,_,_,k=> .cons _ _ _ _ h (hs.append k)
theorem gW.take{im:Im}{loc:Loc}: ∀{xs:J PV} {vs:J Value},gW im loc xs vs-> ∀n,gW im loc (xs.take n) (vs.take n)
 |_,_,.nil,n=>by simp;exact .nil
 |_,_,.cons y v xs vs h hs,0=> .nil
 |_,_,.cons y v xs vs h hs,n+1=> .cons _ _ _ _ h (hs.take n)
theorem gW.drop{im:Im}{loc:Loc}: ∀{xs:J PV} {vs:J Value},gW im loc xs vs-> ∀n,gW im loc (xs.drop n) (vs.drop n)
 |_,_,.nil,n=>by simp;exact .nil
 |_,_,.cons y v xs vs h hs,0=> .cons _ _ _ _ h hs
 |_,_,.cons y v xs vs h hs,n+1=>hs.drop n
theorem gW.of{im:Im}{loc:Loc}: ∀(xs:J PV) (vs:J Value),hl xs=hl vs->(∀(i:Nat) (x:PV) (v:Value),xs[i]? =aa x->vs[i]? =aa v->VR im loc x v)->gW im loc xs vs
 | [],[],_,_=> .nil
 |x::xs,v::vs,I,h=> .cons x v xs vs (h 0 x v rfl rfl) (gW.of xs vs (by simpa using I) λi a b ha hb=>h (i+1) a b (by simpa using ha) (by simpa using hb))
theorem VR.plain{im:Im}{loc:Loc}{x:PV}{v:Value}(h:VR im loc x v)(hp:x.plain=Pd):ob x=aa v:=by cases h<;>first|rfl|cases hp
theorem VR.Mf{im:Im}{loc:Loc}{x:PV}{v:Value}(h:ob x=aa v):VR im loc x v:=by cases x<;>simp[ob,]at h<;>first|(subst h;constructor)|cases h
theorem VR.cells{im:Im}{loc:Loc}{x:PV}{v:Value}(h:VR im loc x v)(hs: ∀c∈x.cells,c.yA=Pd):gW im loc x.cells v.cells.toList:=by
 cases h with
 |agg cs vs h=>exact h
 |undef v=>have:=hs .undef (by simp[PV.cells]);cases this
 |oI=>have:=hs .oI (by simp[PV.cells]);cases this
 |cT cs vs h=>have:=hs (.cT cs) (by simp[PV.cells]);cases this
 |int k n=>exact .cons _ _ _ _ (.int k n) .nil
 |bool b=>exact .cons _ _ _ _ (.bool b) .nil
 |str s=>exact .cons _ _ _ _ (.str s) .nil
 |sl aT yg rows a cap hc hk h=>exact .cons _ _ _ _ (.sl aT yg rows a cap hc hk h) .nil
 |own t aT off len cap ex li a eL D S h3 h4 h5 h6 h7=>exact .cons _ _ _ _ (.own t aT off len cap ex li a eL D S h3 h4 h5 h6 h7) .nil
 |ptr t aT row off li D S h3=>exact .cons _ _ _ _ (.ptr t aT row off li D S h3) .nil
 |cj cs off b o vs h hv=>exact .cons _ _ _ _ (.cj cs off b o vs h hv) .nil
 |mp t li h=>exact .cons _ _ _ _ (.mp t li h) .nil
 |fY fn a b as bs ha hb=>exact .cons _ _ _ _ (.fY fn a b as bs ha hb) .nil
 |fC=>exact .cons _ _ _ _ .fC .nil
theorem VR.QE{im:Im}{loc:Loc}{x:PV}{v:Value}(h:VR im loc x v)(hs:x.yA=Pd):(∀us,v≠ .agg us)/\ ∀us,v≠ .tuple us:=by cases h<;>first|(simp[PV.yA]at hs;done)|simp
def valOf:PV->O Value
 | .agg cs=>(cs.mapM ob).map λvs=> .agg ⟨vs⟩
 |x=>ob x
def iX:J (PV×PV)->J MapEntry->Prop
 | [],[]=>True
 |(k,v)::r,e::r'=>valOf k=aa e.key/\valOf v=aa e.val/\iX r r'
 |_,_=>False
def BR(im:Im)(loc:Loc)(w:World)(li:LI):pT->Prop
 | .arr e rows=>li.aT=e/\li.n=hl rows/\(rows≠[]-> ∃cs el,w.heap[li.eK]? =aa (.cells cs el (0,0))/\cs.size=li.sz/\li.sh+hl rows*e<=li.sz/\cw (λk=>cs[k]?) li.sh e rows)
 | .box cells=>(li.aT=hl cells/\li.n=1\/li.aT=1/\li.n=hl cells)/\True/\li.sh=0/\ ∃vs el,w.heap[li.eK]? =aa (.cells ⟨vs⟩ el (0,0))/\hl vs=li.sz/\gW im loc cells vs
 | .map es=> ∃ph clock,w.heap[li.eK]? =aa (.map ph clock)/\iX es ph.toList
 | .dead=>True
theorem BR.mono{im fZ:Im}{loc bK:Loc}{w w':World}{li:LI}{k:pT}(h:BR im loc w li k)(N:uH im fZ)(I:rD loc bK)
 (hw:w'.heap[li.eK]? =w.heap[li.eK]?):BR fZ bK w' li k:=by
 cases k with
 |arr e rows=>exact⟨h.1,h.2.1,λfk=>let ⟨cs,el,D,S,h3⟩:=h.2.2 fk;⟨cs,el,by grind,S,h3⟩⟩
 |box cells=>obtain⟨D,S,h3,vs,el,h4,h5,h6⟩:=h;exact⟨D,S,h3,vs,el,by grind,h5,h6.mono N I⟩
 |map es=>obtain⟨en,cl,D,S⟩:=h;exact⟨en,cl,by grind,S⟩
 |dead=>trivial
theorem BR.lt{im:Im}{loc:Loc}{w:World}{li:LI}{k:pT}(h:BR im loc w li k)(hs:k.cu=Pd):li.eK<w.heap.size:=by
 have get: ∀{o:Obj},w.heap[li.eK]? =aa o->li.eK<w.heap.size:=λe=>by
  grind
 cases k with
 |arr e rows=>
  cases rows with
  |nil=>cases hs
  |cons r rs=>obtain⟨cs,el,D,_⟩:=h.2.2 (by simp);exact get D
 |box cells=>obtain⟨_,_,_,vs,el,h4,_⟩:=h;exact get h4
 |map es=>obtain⟨en,cl,D,S⟩:=h;exact get D
 |dead=>cases hs
structure SR(im:Im)(loc:Loc)(aH:dp)(fz:List Nat)(w:World):Prop where
 bZ: ∀b o,im b=aa o->w.heap[b]? =aa o
 eK: ∀t li,loc t=aa li-> ∃k,aH[t]? =aa k/\BR im loc w li k
 mE: ∀t u li lj k k',loc t=aa li->loc u=aa lj->aH[t]? =aa k->aH[u]? =aa k'->k.cu=Pd->k'.cu=Pd->li.eK=lj.eK->t=u
 free: ∀t li k,loc t=aa li->aH[t]? =aa k->k.cu=Pd->has fz t=EC->im li.eK=Ie
def ER(im:Im)(loc:Loc)(e:Env)(tmps:Array Value):Prop:= ∀t,VR im loc (lk t e) (tmps.getD t Go.undef)
theorem ER.mono{im fZ:Im}{loc bK:Loc}(N:uH im fZ)(I:rD loc bK){e:Env}{tmps:Array Value}(h:ER im loc e tmps):ER fZ bK e tmps:=
 λt=>(h t).mono N I
theorem yK(t s:Nat)(v:PV)(e:Env):lk t ((s,v)::e)=if s=t then v else lk t e:=by simp only[lk];simp
theorem ER.put{im:Im}{loc:Loc}{e:Env}{tmps:Array Value}(h:ER im loc e tmps){d:Nat}{x:PV}{v:Value}(hd:d<tmps.size)(hv:VR im loc x v):
 ER im loc ((d,x)::e) (tmps.setIfInBounds d v):=by
 intro t;rw[yK]
 by_cases hdt:d=t
 ·simp_all
 have:=h t
 simp_all
end Go.Vm
/- Renaming the blocks. -/
namespace Go.Vm
theorem FL{t:Nat}: ∀{m:J Nat} {u:Nat},idxOf t m=aa u->m[u]? =aa t
 | [],u,h=>by simp[idxOf]at h
 |s::r,u,h=>by
  simp[idxOf]at h;split at h
  ·rename_i e
   injection h with h;subst h;simp_all
  rw[If]at h
  obtain⟨v,hv,rfl⟩:=h;simpa using FL hv
section
variable {im : Im} {loc eQ : Loc} {m : J Nat}
def Ren(m:J Nat)(loc eQ:Loc):Prop:= ∀(u t:Nat),m[u]? =aa t->eQ u=loc t
mutual
theorem aaE(hm:Ren m loc eQ): ∀{x y:PV} {v:Value},VR im loc x v->tj m x=aa y->VR im eQ y v
 | .undef,y,v,h,hr=>by simp[tj,IR]at hr;subst hr;exact .undef _
 | .oI,y,v,h,hr=>by simp[tj,IR]at hr;subst hr;cases h;exact .oI
 | .int k n,y,v,h,hr=>by simp[tj,IR]at hr;subst hr;cases h;exact .int _ _
 | .bool b,y,v,h,hr=>by simp[tj,IR]at hr;subst hr;cases h;exact .bool _
 | .str b,y,v,h,hr=>by simp[tj,IR]at hr;subst hr;cases h;exact .str _
 | .fC,y,v,h,hr=>by simp[tj,IR]at hr;subst hr;cases h;exact .fC
 | .agg cs,y,v,h,hr=>by simp[tj,If]at hr;obtain⟨Pb,D,rfl⟩:=hr;cases h with|agg _ vs h=>exact .agg _ _ (Av hm h D)
 | .cT cs,y,v,h,hr=>by simp[tj,If]at hr;obtain⟨Pb,D,rfl⟩:=hr;cases h with|cT _ vs h=>exact .cT _ _ (Av hm h D)
 | .sl e c rows,y,v,h,hr=>by simp[tj,IR]at hr;subst hr;cases h with|sl _ _ _ a cap D S h3=>exact .sl _ _ _ a cap D S h3
 | .own t e off len cap ex,y,v,h,hr=>by simp[tj,If]at hr;obtain⟨u,D,rfl⟩:=hr;cases h with|own _ _ _ _ _ _ li a eL g1 g2 g3 g4 g5 g6 g7=>exact .own _ _ _ _ _ _ li a eL (by rw[hm u t (FL D)];exact g1) g2 g3 g4 g5 g6 g7
 | .ptr t e row off,y,v,h,hr=>by simp[tj,If]at hr;obtain⟨u,D,rfl⟩:=hr;cases h with|ptr _ _ _ _ li g1 g2 g3=>exact .ptr _ _ _ _ li (by rw[hm u t (FL D)];exact g1) g2 g3
 | .cj cs off,y,v,h,hr=>by simp[tj,If]at hr;obtain⟨Pb,D,rfl⟩:=hr;cases h with|cj _ _ b o vs h hv=>exact .cj _ _ b o vs (Av hm h D) hv
 | .mp t,y,v,h,hr=>by simp[tj,If]at hr;obtain⟨u,D,rfl⟩:=hr;cases h with|mp _ li g1=>exact .mp _ li (by rw[hm u t (FL D)];exact g1)
 | .fY f a b,y,v,h,hr=>by
  simp[tj]at hr;split at hr
  ·rename_i a' b' ha hb
   injection hr with hr;subst hr;cases h with|fY _ _ _ as bs D S=>exact .fY _ _ _ _ _ (Av hm D ha) (Av hm S hb)
  cases hr
theorem Av(hm:Ren m loc eQ): ∀{x y:J PV} {v:J Value},gW im loc x v->Gz m x=aa y->gW im eQ y v
 | [],y,v,h,hr=>by simp[Gz,IR]at hr;subst hr;cases h;exact .nil
 |x::xs,y,v,h,hr=>by
  simp[Gz]at hr;split at hr
  ·rename_i x' WN D S
   injection hr with hr;subst hr;cases h with|cons _ u _ us g1 g2=>exact .cons _ _ _ _ (aaE hm g1 D) (Av hm g2 S)
  cases hr
end
theorem aaq: ∀{x y:J PV},Gz m x=aa y->hl y=hl x
 | [],y,h=>by simp[Gz,IR]at h;subst h;rfl
 |x::xs,y,h=>by
  simp[Gz]at h;split at h
  ·rename_i x' WN D S
   injection h with h;subst h;simp[aaq S]
  cases h
theorem aav{w:World}{li:LI}{k k':pT}(hm:Ren m loc eQ)(hr:uF m k=aa k')(h:BR im loc w li k):BR im eQ w li k':=by
 cases k with
 |arr e rows=>simp[uF,IR]at hr;subst hr;exact h
 |map es=>simp[uF,IR]at hr;subst hr;exact h
 |dead=>simp[uF,IR]at hr;subst hr;trivial
 |box cs=>simp[uF,If]at hr;obtain⟨Pb,D,rfl⟩:=hr;obtain⟨g1,g2,g3,vs,el,g4,g5,g6⟩:=h;exact⟨by rw[aaq D];exact g1,g2,g3,vs,el,g4,g5,Av hm g6 D⟩
theorem aaw{k k':pT}(hr:uF m k=aa k'):k'.cu=k.cu:=by
 cases k with
 |arr e rows=>simp[uF,IR]at hr;subst hr;rfl
 |map es=>simp[uF,IR]at hr;subst hr;rfl
 |dead=>simp[uF,IR]at hr;subst hr;rfl
 |box cs=>simp[uF,If]at hr;obtain⟨Pb,D,rfl⟩:=hr;rfl
theorem JG{aH:dp}: ∀{l:J Nat} {s1:dp},Es aH m l=aa s1->hl s1=hl l/\ ∀(u t:Nat),l[u]? =aa t-> ∃k k',aH[t]? =aa k/\uF m k=aa k'/\s1[u]? =aa k'
 | [],s1,h=>by simp[Es,]at h;grind
 |t::ts,s1,h=>by
  simp[Es]at h;split at h
  ·rename_i b hb
   split at h
   ·rename_i b' r D S
    injection h with h;subst h;obtain⟨g1,g2⟩:=JG S
    grind
   cases h
  cases h
end
end Go.Vm
/- Operation by operation: the model's run gives what the logical machine says. First part: what reads no memory. -/
namespace Go.Vm
theorem hZ{k l:IntKind}:iA k l=Pd↔k=l:=by cases k<;>cases l<;>simp[iA]
theorem LJ{n:Int}(D: -9223372036854775808<=n)(S:n<9223372036854775808):IntKind.wrap .i64 n=n:=by
 simp[IntKind.wrap,IntKind.bits,IntKind.signed,]
 grind
theorem zu(k:IntKind)(n:Int):M k n=k.wrap n:=by
 unfold M;split
 ·rename_i m
  split
  ·rename_i h
   have h:m<9223372036854775808:=by simpa using h
   grind[LJ]
  rfl
 ·rename_i m
  split
  ·rename_i h
   have h:m<9223372036854775808:=by simpa using h
   grind[LJ]
  rfl
 ·rfl
 rfl
section
variable {P : Program} {im : Im} {loc : Loc} {w : World}
theorem VR.jT{k:IntKind}{n:Int}{v:Value}(h:VR im loc (.int k n) v):v= .int k n:=by cases h;rfl
theorem VR.oc{b:Bool}{v:Value}(h:VR im loc (.bool b) v):v= .bool b:=by cases h;rfl
theorem VR.LK{b:ByteArray}{v:Value}(h:VR im loc (.str b) v):v= .string b:=by cases h;rfl
theorem VR.xa{cs:J PV}{v:Value}(h:VR im loc (.agg cs) v): ∃vs,v= .agg ⟨vs⟩/\gW im loc cs vs:=by cases h with|agg _ vs h=>grind
theorem VR.Ig{cs:J PV}{v:Value}(h:VR im loc (.cT cs) v): ∃vs,v= .tuple ⟨vs⟩/\gW im loc cs vs:=by cases h with|cT _ vs h=>grind
mutual
theorem QF: ∀{x:PV} {v:Value},Bk x v=Pd->VR im loc x v
 | .int k n,v,h=>by
  cases v<;>simp only[Bk]at h<;>first|cases h|skip
  simp only[PP,beq_iff_eq,hZ]at h;obtain⟨rfl,rfl⟩:=h;exact .int _ _
 | .bool a,v,h=>by
  cases v<;>simp only[Bk]at h<;>first|cases h|skip
  rename_i b;have:a=b:=by simpa using h
  subst this;exact .bool _
 | .str a,v,h=>by
  cases v<;>simp only[Bk]at h<;>first|cases h|skip
  rename_i b;have D:a.data.toList=b.data.toList:=by simpa using h
  obtain⟨⟨x⟩⟩:=a;obtain⟨⟨y⟩⟩:=b;have S:x=y:=D;subst S;exact .str _
 | .sl e c [],v,h=>by
  cases v with
  |slice a n cap=>
   cases a with
   |none=>
    cases n with
    |zero=>
     cases cap with
     |zero=>exact .sl e c [] Ie 0 (Nat.zero_le _) (λ_=>rfl) (λfk=>absurd rfl fk)
     |succ c=>simp[Bk]at h
    |succ n=>simp[Bk]at h
   |some a=>simp[Bk]at h
  |_=>simp[Bk]at h
 | .sl e c (_::_),v,h=>by simp[Bk]at h
 | .agg cs,v,h=>by
  cases v<;>simp only[Bk]at h<;>first|cases h|skip
  rename_i vs;exact .agg cs vs.toList (Ex h)
 | .fC,v,h=>by
  cases v<;>simp only[Bk]at h<;>first|cases h|skip
  exact .fC
 | .undef,v,_=> .undef v
 | .oI,v,h=>by simp[Bk]at h
 | .cT _,v,h=>by simp[Bk]at h
 | .own ..,v,h=>by simp[Bk]at h
 | .ptr ..,v,h=>by simp[Bk]at h
 | .cj ..,v,h=>by simp[Bk]at h
 | .mp _,v,h=>by simp[Bk]at h
 | .fY ..,v,h=>by simp[Bk]at h
theorem Ex: ∀{x:J PV} {v:J Value},Me x v=Pd->gW im loc x v
 | [],[],_=> .nil
 |x::xs,v::vs,h=>by simp only[Me,PP]at h;exact .cons _ _ _ _ (QF h.1) (Ex h.2)
 | [],_::_,h=>by simp[Me]at h
 |_::_,[],h=>by simp[Me]at h
end
theorem aeS {op : BinOp} {t : TypeId} {a b : Operand} {x y : PV} {u v : Value} {z : PV} (X : VR im loc x u) (hy : VR im loc y v) (h : Yy op x y = aa z) :
    ∃ r, (do eqGuard op t a b u v; binOp op t u v : Sem Value).run P w = .ok r w /\ VR im loc z r := by
  unfold Yy at h
  split at h
  · obtain rfl := X.jT
    obtain rfl := hy.jT
    split at h
    · simp only [JC] at h
      split at h
      · cases h
      rename_i hb
      injection h with h; subst h
      refine ⟨_, ?_, .int _ _⟩
      simp only [binOp, Op.shift, hb, ]
      rfl
    · simp only [JC] at h
      split at h
      · cases h
      rename_i hb
      injection h with h; subst h
      refine ⟨_, ?_, .int _ _⟩
      simp only [binOp, Op.shift, hb, ]
      rfl
    split at h
    · rename_i aBA aBB hk
      have := hZ.1 hk; subst this
      unfold arith at h
      split at h
      all_goals first
        | (injection h with h; subst h
           first
             | (refine ⟨_, ?_, .int _ _⟩
                simp only [binOp, zu, ne_eq, ]
                rfl)
             | (refine ⟨_, ?_, .bool _⟩
                simp only [binOp, ne_eq, ]
                rfl))
        | (split at h
           · cases h
           rename_i hb
           injection h with h; subst h
           refine ⟨_, ?_, .int _ _⟩
           simp only [binOp, Op.intDiv, zu, ne_eq, hb]
           rfl)
        | cases h
    cases h
  cases h
theorem aaF{neg:Bool}{op:BinOp}{t:TypeId}{p q:Operand}{a b:Bool}(ho:op=if neg then .neq else .eql)(ht:P.underlying t=aa .bool):
 (do eqGuard op t p q (.bool a) (.bool b);binOp op t (.bool a) (.bool b):Sem Value).run P w= .ok (.bool (if neg then !(a==b)else a==b)) w:=by
 have D:(Op.equal t _ _).run P w= .ok _ w:=run_equalIn_bool' w 9999 t a b ht;cases neg<;>simp[]at ho<;>subst ho<;>simp[eqGuard,binOp,D]
theorem aiX{op:UnOp}{x z:PV}{u:Value}(X:VR im loc x u)(h:gm op x=aa z): ∃r,(Op.unary op u).run P w= .ok r w/\VR im loc z r:=by
 unfold gm at h;split at h
 ·injection h with h;subst h
  obtain rfl:=X.jT;exact⟨_,rfl,by rw[zu];exact .int _ _⟩
 ·injection h with h;subst h
  obtain rfl:=X.oc;exact⟨_,rfl,.bool _⟩
 cases h
theorem aaG{s d:TypeId}{k k':IntKind}{n:Int}{ds:TypeDesc}(hs:P.underlying s=aa ds)(hd:P.underlying d=aa (.int k)):
 (convert s d (.int k' n)).run P w= .ok (.int k (M k n)) w:=by
 simp[convert,run_underlying hs,run_underlying hd,zu];cases ds<;>rfl
theorem JH{t:TypeId}(h:kv P t=Pd):(isAgg t).run P w= .ok Pd w:=by
 unfold kv at h;split at h
 ·rename_i f hu;simp[isAgg,run_underlying hu]
 ·rename_i n f hu;simp[isAgg,run_underlying hu]
 cases h
theorem JI{t:TypeId}(hs:(P.underlying t).isSome=Pd)(h:kv P t=EC):(isAgg t).run P w= .ok EC w:=by
 cases hu:P.underlying t with
 |none=>grind
 |some d=>unfold kv at h;rw[hu]at h;cases d<;>first|(simp[isAgg,run_underlying hu];done)|cases h
theorem pq{t:TypeId}{n:Nat}(h:vY P t n=Pd):(sizeOf t).run P w= .ok n w:=by
 unfold vY at h;cases N:P.info? t with
 |none=>grind
 |some i=>
  rw[N]at h;have:i.size=n:=by simpa using h
  simp[sizeOf,typeInfo,N,this]
theorem aax{agg:O Nat}{t:TypeId}{off:Nat}{cs:J PV}{vs:J Value}{x:PV}(ha:Ic P t agg=Pd)(h:gW im loc cs vs)
 (hp:part agg off cs=aa x): ∃v,(Go.part t ⟨vs⟩ off).run P w= .ok v w/\VR im loc x v:=by
 unfold Ic at ha;simp[]at ha;obtain⟨hs,ha⟩:=ha;cases agg with
 |some n=>
  simp[]at ha;simp only[part]at hp;split at hp
  ·rename_i rJ
   injection hp with hp;subst hp;refine⟨.agg ⟨(vs.drop off).take n⟩,?_,.agg _ _ ((h.drop off).take n)⟩;simp only[Go.part,Md,JH ha.1,Y,if_true,pq ha.2,];simp
  cases hp
 |none=>simp[]at ha;obtain⟨v,hv,hr⟩:=h.get off x hp;simp[Go.part,JI hs ha.1,];simp_all
theorem CR{agg:O Nat}{t:TypeId}{b o off:Nat}{cs:J PV}{vs:J Value}{x:PV}(ha:Ic P t agg=Pd)(h:gW im loc cs vs)
 (hm: ∀(j:Nat) (v:Value),vs[j]? =aa v->w.cell? ⟨b,o+j,Ie⟩=aa v)
 (hp:part agg off cs=aa x): ∃v,(loadVar t ⟨b,o+off,Ie⟩).run P w= .ok v w/\VR im loc x v:=by
 unfold Ic at ha;simp[]at ha;obtain⟨hs,ha⟩:=ha;have aBC: ∀k j:Nat,(⟨b,k,Ie⟩:Addr).add j=⟨b,k+j,Ie⟩:=by intro k j;unfold Addr.add;simp
 cases agg with
 |some n=>
  simp[]at ha;simp only[part]at hp;split at hp
  ·injection hp with hp;subst hp
   refine⟨.agg ⟨(vs.drop off).take n⟩,?_,.agg _ _ ((h.drop off).take n)⟩;have I:((vs.drop off).take n).length=n:=by have:=h.sG;simp;omega
   have:=run_loadCells_list (P:=P) w ⟨b,o+off,Ie⟩ ((vs.drop off).take n) (by
    grind)
   rw[I]at this;simp[loadVar,JH ha.1,pq ha.2,this,]
  cases hp
 |none=>simp[]at ha;obtain⟨v,hv,hr⟩:=h.get off x hp;simp[loadVar,JI hs ha.1,];simp_all
end
end Go.Vm
/- What an operation does to the memory, and the shapes in which it does it. -/
namespace Go.Vm
structure Aw(im:Im)(loc:Loc)(aH:dp)(w:World)(r:v7)(fZ:Im)(bK:Loc)(w':World):Prop where
 kx:uH im fZ
 fA:rD loc bK
 bZ: ∀b o,fZ b=aa o->w'.heap[b]? =aa o
 fG: ∀b o,fZ b=aa o->im b=aa o\/w.heap.size<=b\/ ∃t li k,has r.fr t=Pd/\loc t=aa li/\aH[t]? =aa k/\k.cu=Pd/\li.eK=b
 os:w'.os=w.os
 tape:Tape w w'
 output:w'.output=w.output
 size:w.heap.size<=w'.heap.size
 frame: ∀b,b<w.heap.size->(∀t k li k0,(t,k)∈r.wr->loc t=aa li->aH[t]? =aa k0->k0.cu=Pd->li.eK≠b)->w'.heap[b]? =w.heap[b]?
 YA: ∀t k,(t,k)∈r.wr->k.cu=Pd-> ∃k0,aH[t]? =aa k0/\k0.cu=Pd
 wr: ∀t k li,(t,k)∈r.wr->loc t=aa li->BR fZ bK w' li k
 pU: ∀t li,bK t=aa li->loc t=aa li\/(hl aH<=t/\t<hl aH+hl r.news)
 news: ∀(j:Nat) (k:pT) (li:LI),r.news[j]? =aa k->bK (hl aH+j)=aa li->BR fZ bK w' li k/\
  (k.cu=Pd->fZ li.eK=Ie/\(w.heap.size<=li.eK\/ ∃t lt k0,(t,pT.dead)∈r.wr/\loc t=aa lt/\aH[t]? =aa k0/\k0.cu=Pd/\lt.eK=li.eK))
 distinct: ∀(i j:Nat) (ki kj:pT) (li lj:LI),r.news[i]? =aa ki->r.news[j]? =aa kj->ki.cu=Pd->kj.cu=Pd->
  bK (hl aH+i)=aa li->bK (hl aH+j)=aa lj->li.eK=lj.eK->i=j
theorem JJ{α:Type}{n:Nat}{l:J α}{loc:Loc}{A:LI->α->Prop}(h: ∀(j:Nat) (k:α),l[j]? =aa k-> ∃li,loc (n+j)=aa li/\A li k):
 ∀(j:Nat) (k:α) (li:LI),l[j]? =aa k->loc (n+j)=aa li->A li k:=λj k li hj I=>by
 grind
structure nM(im:Im)(loc:Loc)(aH:dp)(w:World)(r:v7):Prop where
 bZ: ∀b o,im b=aa o->w.heap[b]? =aa o
 tok: ∀t,t∈r.rd\/(∃k,(t,k)∈r.wr)-> ∀li,loc t=aa li-> ∃k,aH[t]? =aa k/\BR im loc w li k
 free: ∀t k,(t,k)∈r.wr-> ∀li k',loc t=aa li->aH[t]? =aa k'->k'.cu=Pd->im li.eK=Ie
 fresh: ∀j,j<hl r.news->loc (hl aH+j)=Ie
 mE: ∀t u li lj k k',(t∈r.rd\/ ∃b,(t,b)∈r.wr)->(u∈r.rd\/ ∃b,(u,b)∈r.wr)->loc t=aa li->loc u=aa lj->aH[t]? =aa k->aH[u]? =aa k'->k.cu=Pd->k'.cu=Pd->li.eK=lj.eK->t=u
section
variable {im : Im} {loc : Loc} {aH : dp} {w : World} {r : v7}
theorem Aw.none(hk:nM im loc aH w r)(hn:r.news=[])(hw:r.wr=[]):Aw im loc aH w r im loc w where
 kx:= .refl _
 fA:= .refl _
 bZ:=hk.bZ
 fG:=λ_ _ h=> .inl h
 os:=rfl
 tape:= .refl _
 output:=rfl
 size:=Pc _
 frame:=λ_ _ _=>rfl
 YA:=λt k h=>by grind
 wr:=λt k li h=>by grind
 pU:=λ_ _ h=> .inl h
 news:=λj k li h=>by grind
 distinct:=λi j ki kj li lj h=>by grind
def Loc.set(loc:Loc)(t:Nat)(li:LI):Loc:=λu=>if u=t then aa li else loc u
theorem Loc.ij(loc:Loc)(t:Nat)(li:LI):loc.set t li t=aa li:=by simp[Loc.set]
theorem Loc.Ey{loc:Loc}{t:Nat}(li:LI)(h:loc t=Option.none):rD loc (loc.set t li):=by
 intro u l hu;unfold Loc.set
 grind
theorem Aw.new(hk:nM im loc aH w r){k:pT}{o:Obj}{w':World}(li:LI)(hn:r.news=[k])(hw:r.wr=[])
 (hh:w'.heap=w.heap.push o) (ho:w'.os=w.os) (ht:w'.tape=w.tape) (hp:w'.output=w.output) (I:li.eK=w.heap.size)
 (hb:BR im (loc.set (hl aH) li) w' li k) (hd:w.drawn<=w'.drawn:=by first|exact Pc _|exact Nat.le_succ _):Aw im loc aH w r im (loc.set (hl aH) li) w' where
 kx:= .refl _
 fA:=Loc.Ey li (by have:=hk.fresh 0 (by simp[hn]);simpa using this)
 bZ:=λb o h=>by
  have D:=hk.bZ b o h
  grind
 fG:=λ_ _ h=> .inl h
 os:=ho
 tape:=⟨ht,hd⟩
 output:=hp
 size:=by rw[hh];simp
 frame:=λb KK _=>by grind
 YA:=λt k h=>by grind
 wr:=λt k li h=>by grind
 pU:=λt l h=>by
  unfold Loc.set at h
  grind
 news:=JJ λj k' h=>by
  rw[hn]at h;cases j with
  |zero=>
   simp at h;subst h;refine⟨li,Loc.ij _ _ _,hb,λ_=>⟨?_,.inl (by omega)⟩⟩;cases N:im li.eK with
   |none=>rfl
   |some o=>have:=hk.bZ _ _ N;grind
  |succ j=>simp at h
 distinct:=λi j ki kj li lj D S _ _ _ _ _=>by
  grind
theorem Aw.aaH(hk:nM im loc aH w r){aT:Nat}(hn:r.news=[.arr aT []])(hw:r.wr=[]):Aw im loc aH w r im (loc.set (hl aH) ⟨0,0,aT,0,0⟩) w where
 kx:= .refl _
 fA:=Loc.Ey _ (by have:=hk.fresh 0 (by simp[hn]);simpa using this)
 bZ:=hk.bZ
 fG:=λ_ _ h=> .inl h
 os:=rfl
 tape:= .refl _
 output:=rfl
 size:=Pc _
 frame:=λ_ _ _=>rfl
 YA:=λt k h=>by grind
 wr:=λt k li h=>by grind
 pU:=λt l h=>by
  unfold Loc.set at h
  grind
 news:=JJ λj k' h=>by
  rw[hn]at h;cases j with
  |zero=>simp at h;subst h;exact⟨_,Loc.ij _ _ _,⟨rfl,rfl,λfk=>absurd rfl fk⟩,λhs=>by cases hs⟩
  |succ j=>simp at h
 distinct:=λi j ki kj li lj D S _ _ _ _ _=>by
  grind
theorem Aw.write(hk:nM im loc aH w r){t:Nat}{k k0:pT}{o:Obj}{w':World}{li:LI}(hn:r.news=[])(hw:r.wr=[(t,k)])
 (I:loc t=aa li) (h0:aH[t]? =aa k0) (hs:k0.cu=Pd)
 (hh:w'.heap=w.heap.setIfInBounds li.eK o) (ho:w'.os=w.os) (ht:w'.tape=w.tape) (hp:w'.output=w.output)
 (hb:BR im loc w' li k) (hd:w.drawn<=w'.drawn:=by first|exact Pc _|exact Nat.le_succ _):Aw im loc aH w r im loc w' where
 kx:= .refl _
 fA:= .refl _
 bZ:=λb o' h=>by
  have D:=hk.bZ b o' h;have Bm:=hk.free t k (by simp[hw]) li k0 I h0 hs
  grind
 fG:=λ_ _ h=> .inl h
 os:=ho
 tape:=⟨ht,hd⟩
 output:=hp
 size:=by rw[hh];simp
 frame:=λb _ h=>by
  grind
 YA:=λt' k' hm _=>by
  grind
 wr:=λt' k' li' h h'=>by
  grind
 pU:=λ_ _ h=> .inl h
 news:=λj k li h=>by grind
 distinct:=λi j ki kj li lj h=>by grind
end
end Go.Vm
/- Operation by operation, second part: addresses, reads, new blocks. -/
namespace Go.Vm
section
variable {P : Program} {im : Im} {loc : Loc} {aH : dp} {w : World}
theorem yj(b o n:Nat):(⟨b,o,Ie⟩:Addr).add n=⟨b,o+n,Ie⟩:=by unfold Addr.add;simp
theorem VR.FM{t e r o:Nat}{v:Value}(h:VR im loc (.ptr t e r o) v):
 ∃li,loc t=aa li/\li.aT=e/\r<li.n/\v= .pointer (aa ⟨li.eK,li.sh+r*e+o,Ie⟩):=by
 cases h with|ptr _ _ _ _ li D S h3=>grind
theorem VR.Ez{cs:J PV}{off:Nat}{v:Value}(h:VR im loc (.cj cs off) v):
 ∃b o vs,gW im loc cs vs/\(∀(j:Nat) (v:Value),vs[j]? =aa v->wm im b (o+j)=aa v)/\v= .pointer (aa ⟨b,o+off,Ie⟩):=by
 cases h with|cj _ _ b o vs D S=>grind
theorem pI{b o:Nat}{cs:Array Value}{el:TypeId}{fr:Nat×Nat}{v:Value}(h:w.heap[b]? =aa (.cells cs el fr))(hc:cs[o]? =aa v):
 w.cell? ⟨b,o,Ie⟩=aa v:=by simp[World.cell?,h,hc]
theorem xI(hk: ∀b o,im b=aa o->w.heap[b]? =aa o){b o:Nat}{v:Value}(h:wm im b o=aa v):w.cell? ⟨b,o,Ie⟩=aa v:=by
 unfold wm at h
 grind[pI]
def bw(r:Row):J Value:=r.map λc=>(ob c).getD Go.undef
theorem Ax{get:Nat->O Value}{sh aT:Nat}{rows:J Row}(h:cw get sh aT rows){i:Nat}{r:Row}(hr:rows[i]? =aa r):
 gW im loc r (bw r)/\ ∀(j:Nat) (v:Value),(bw r)[j]? =aa v->get (sh+i*aT+j)=aa v:=by
 obtain⟨_,hc⟩:=h i r hr;constructor
 ·refine gW.of _ _ (by simp[bw]) λj x v X hv=>?_
  obtain⟨u,hu,_⟩:=hc j x X;simp[bw,]at hv
  grind[VR.Mf]
 intro j v hv
 cases X:r[j]? with
 |none=>simp[bw,X]at hv
 |some x=>
  simp[bw,]at hv
  grind
theorem aaA{agg:O Nat}{t:TypeId}{p:PV}{u:Value}{r:v7}(hp:VR im loc p u)(ha:Ic P t agg=Pd)(h:v8 aH agg p=aa r)
 (hk:nM im loc aH w r): ∃v,(Instr.loadAt t u).run P w= .ok v w/\VR im loc r.v v/\r.news=[]/\r.wr=[]:=by
 unfold v8 at h;split at h
 ·rename_i tk e row off
  obtain⟨li,I,he,hn,rfl⟩:=hp.FM;split at h
  ·rename_i e' rows hs
   split at h
   ·rename_i cs yL
    rw[If]at h;obtain⟨x,X,rfl⟩:=h;obtain⟨k,lL,hb⟩:=hk.tok tk (.inl (by simp)) li I;rw[hs]at lL;injection lL with lL;subst lL;have fk:rows≠[]:=by grind
    obtain⟨D,S,h3⟩:=hb;obtain⟨arr,el,GB,_,_,qg⟩:=h3 fk;obtain⟨hv,hg⟩:=Ax qg yL;have U':e'=e:=by rw[<-D,he]
    subst U';obtain⟨v,dG,wc⟩:=CR ha hv
     (λj v hj=>pI GB (hg j v hj)) X
    exact⟨v,by assumption,wc,rfl,rfl⟩
   cases h
  ·rename_i cs hs
   split at h
   ·rename_i Ef
    have Ef:row=0:=by simpa using Ef
    subst Ef;rw[If]at h;obtain⟨x,X,rfl⟩:=h;obtain⟨k,lL,hb⟩:=hk.tok tk (.inl (by simp)) li I;rw[hs]at lL;injection lL with lL;subst lL;obtain⟨D,S,h3,vs,el,h4,h5,h6⟩:=hb;obtain⟨v,dG,wc⟩:=CR (o:=li.sh+0*e) ha h6
     (λj v hj=>pI h4 (by grind)) X
    exact⟨v,by assumption,wc,rfl,rfl⟩
   cases h
  cases h
 ·rename_i cs off
  obtain⟨b,o,vs,D,S,rfl⟩:=hp.Ez;rw[If]at h;obtain⟨x,X,rfl⟩:=h;obtain⟨v,dG,wc⟩:=CR ha D (λj v hj=>xI hk.bZ (S j v hj)) X;exact⟨v,by assumption,wc,rfl,rfl⟩
 cases h
theorem aaC{cs:J PV}{vs:J Value}{el:TypeId}{r:v7}(h:gW im loc cs vs)(hr:r={v:= .ptr (hl aH) (hl cs) 0 0,news:=[.box cs]})(hk:nM im loc aH w r):
 ∃bK,VR im bK r.v (.pointer (aa ⟨w.heap.size,0,Ie⟩))/\Aw im loc aH w r im bK {w with heap:=w.heap.push (.cells ⟨vs⟩ el)}:=by
 subst hr
 let li:LI:=⟨w.heap.size,0,hl cs,1,hl vs⟩
 refine⟨loc.set (hl aH) li,?_,?_⟩
 ·have:=VR.ptr (im:=im) (loc:=loc.set (hl aH) li) (hl aH) (hl cs) 0 0 li (Loc.ij _ _ _) rfl (Nat.zero_lt_one)
  grind
 refine Aw.new hk li rfl rfl rfl rfl rfl rfl rfl ⟨.inl ⟨rfl,rfl⟩,trivial,rfl,vs,el,?_,rfl,h.mono (.refl _) (Loc.Ey li (by have:=hk.fresh 0 (by simp);simpa using this))⟩
 simp[li]
theorem how{x y:PV}{u v:Value}{el:TypeId}{r:v7}(X:VR im loc x u)(hy:VR im loc y v)(hr:r={v:= .own (hl aH) 1 0 2 2 Pd,news:=[.box [x,y]]})(hk:nM im loc aH w r):
 ∃bK,VR im bK r.v (.slice (aa ⟨w.heap.size,0,Ie⟩) 2 2)/\Aw im loc aH w r im bK {w with heap:=w.heap.push (.cells #[u,v] el)}:=by
 subst hr
 let li:LI:=⟨w.heap.size,0,1,2,2⟩
 refine⟨loc.set (hl aH) li,?_,?_⟩
 ·exact .own (hl aH) 1 0 2 2 Pd li _ 2 (Loc.ij _ _ _) rfl (Pc _) (Pc _) (Pc _) (λ_=>rfl) (.inr ⟨by simp[],by simp[li],by simp[li]⟩)
 refine Aw.new hk li rfl rfl rfl rfl rfl rfl rfl ⟨.inr ⟨rfl,rfl⟩,trivial,rfl,[u,v],el,?_,rfl,(gW.cons _ _ _ _ X (.cons _ _ _ _ hy .nil)).mono (.refl _) (Loc.Ey li (by have:=hk.fresh 0 (by simp);simpa using this))⟩
 simp[li]
theorem aaI{off:Nat}{t:TypeId}{f:Nat}{fs:Array Field}{g:Field}{i:TypeInfo}{p z:PV}{u:Value}(hp:VR im loc p u)
 (hu:P.underlying t=aa (.struct fs)) (hf:fs[f]? =aa g) (ho:g.offset=off) (N:P.info? g.type=aa i) (hz:i.size≠0)
 (h:(match(generalizing:=false) p with| .ptr t s r o=>some (PV.ptr t s r (o+off))| .cj c o=>some (PV.cj c (o+off))|_=>none)=some z):
 ∃v,(Instr.fieldAt t u f).run P w= .ok v w/\VR im loc z v:=by
 have yB:(sizeOf g.type).run P w= .ok i.size w:=by simp[sizeOf,typeInfo,N]
 cases p with
 |ptr tk s r o=>injection h with h;subst h;obtain⟨li,I,he,hn,rfl⟩:=hp.FM;refine⟨_,?_,.ptr tk s r _ li I he hn⟩;simp[Instr.fieldAt,run_underlying hu,hf,Instr.sureAddr,fieldPlace,yB,hz,yj,ho,Mg]
 |cj cs o=>injection h with h;subst h;obtain⟨b,o',vs,D,S,rfl⟩:=hp.Ez;refine⟨_,?_,.cj cs _ b o' vs D S⟩;simp[Instr.fieldAt,run_underlying hu,hf,Instr.sureAddr,fieldPlace,yB,hz,yj,ho,Mg]
 |_=>cases h
theorem wq{x:PV}{n:Nat}{u:Value}(X:VR im loc x u)(h:nL x=aa n): ∃k,u= .int k (n:Int):=by
 unfold nL at h;split at h
 ·rename_i k m
  obtain rfl:=X.jT;split at h
  ·grind
  cases h
 cases h
theorem hvb{n aT j:Nat}{t e:TypeId}{p z:PV}{u:Value}{k:IntKind}(hp:VR im loc p u)
 (hu:P.underlying t=aa (.array n e)) (hs:vY P e aT=Pd) (hj:j<n)
 (h:(match(generalizing:=false) p with| .ptr t s r o=>some (PV.ptr t s r (o+j*aT))| .cj c o=>some (PV.cj c (o+j*aT))|_=>none)=some z):
 ∃v,(Instr.indexAt t u (.int k j)).run P w= .ok v w/\VR im loc z v:=by
 have yB:=pq (w:=w) hs;cases p with
 |ptr tk s r o=>injection h with h;subst h;obtain⟨li,I,he,hn,rfl⟩:=hp.FM;refine⟨_,?_,.ptr tk s r _ li I he hn⟩;simp[Instr.indexAt,asIntOf,run_underlying hu,Instr.sureAddr,yB,yj,Mg];intro h;omega
 |cj cs o=>injection h with h;subst h;obtain⟨b,o',vs,D,S,rfl⟩:=hp.Ez;refine⟨_,?_,.cj cs _ b o' vs D S⟩;simp[Instr.indexAt,asIntOf,run_underlying hu,Instr.sureAddr,yB,yj,Mg];intro h;omega
 |_=>cases h
theorem VR.uI{aT:Nat}{yg:Bool}{rows:J Row}{v:Value}(h:VR im loc (.sl aT yg rows) v):
 ∃a cap,v= .slice a (hl rows) cap/\hl rows<=cap/\(yg=Pd->cap=hl rows)/\(rows≠[]-> ∃b o,a=aa ⟨b,o,Ie⟩/\cw (wm im b) o aT rows):=by
 cases h with|sl _ _ _ a cap hc hk h=>grind
theorem VR.kW{t aT off len cap:Nat}{ex:Bool}{v:Value}(h:VR im loc (.own t aT off len cap ex) v):
 ∃li a eL,v= .slice a len eL/\loc t=aa li/\li.aT=aT/\off+cap<=li.n/\len<=cap/\cap<=eL/\(ex=Pd->eL=cap)/\
  (eL=0\/(li.n≠0/\a=aa ⟨li.eK,li.sh+off*aT,Ie⟩/\li.sh+(off+eL)*aT<=li.sz)):=by
 cases h with|own _ _ _ _ _ _ li a eL D S h3 h4 h5 h6 h7=>grind
theorem run_indexAt_slice{t e:TypeId}{aT j len cap b o:Nat}{k:IntKind}(hu:P.underlying t=aa (.slice e))(hs:vY P e aT=Pd)(hj:j<len):
 (Instr.indexAt t (.slice (aa ⟨b,o,Ie⟩) len cap) (.int k j)).run P w= .ok (.pointer (aa ⟨b,o+j*aT,Ie⟩)) w:=by
 have yB:=pq (w:=w) hs;simp[Instr.indexAt,asIntOf,run_underlying hu,yB,yj];omega
theorem aaJ {aT n:Nat} {t e:TypeId} {x z:PV} {u:Value} {k:IntKind} (X:VR im loc x u)
 (hu:P.underlying t=aa (.slice e)) (hs:vY P e aT=Pd)
 (h:(match (generalizing:=false) x with
  | .sl s _ rows=>match rows[n]? with
   |some cs=>if WF s aT then aa (PV.cj cs 0) else Ie
   |none=>Ie
  | .own t s off len _ _=>if KL n len&&WF s aT then aa (PV.ptr t s (off+n) 0) else Ie
  |_=>Ie)=aa z):
 ∃v,(Instr.indexAt t u (.int k n)).run P w= .ok v w/\VR im loc z v:=by
 cases x with
 |sl s yg rows=>
  dsimp only at h;cases yL:rows[n]? with
  |none=>grind
  |some cs=>
   rw [yL] at h;dsimp only at h;split at h
   · rename_i MX
     have MX:s=aT:=by simpa using MX
     subst MX;injection h with h;subst h;obtain ⟨a,cap,rfl,_,_,hr⟩:=X.uI;have fk:rows≠[]:=by grind
     obtain ⟨b,o,rfl,qg⟩:=hr fk;have hn:n<(hl rows):=by
      grind
     refine ⟨_,run_indexAt_slice hu hs hn,?_⟩;obtain ⟨hv,hg⟩:=Ax qg yL;have:=VR.cj cs 0 b _ _ hv hg;simpa using this
   cases h
 |own tk s off len cap ex=>
  dsimp only at h;split at h
  · rename_i hc
    simp [] at hc;have hn:n<len:=by simpa using hc.1
    have MX:s=aT:=by simpa using hc.2
    injection h with h;obtain ⟨li,a,eL,rfl,I,he,JK,fJ,OJ,_,hd⟩:=X.kW;rcases hd with hd|⟨fk,rfl,_⟩
    · omega
    refine ⟨_,run_indexAt_slice hu hs hn,?_⟩
    have:=VR.ptr (im:=im) tk s (off+n) 0 li I he (by omega)
    grind
  cases h
 |_=>cases h
theorem run_sliceBound{x k:Nat}{kd:IntKind}{code:BoundsCode}(h:x<=k):(Instr.sliceBound (.int kd x) k code).run P w= .ok x w:=by
 have:(0:Int)<=(x:Int)/\(x:Int)<=(k:Int):=by omega
 simp[Instr.sliceBound,asIntOf,this]
def He(v:O Value)(n:O Nat):Prop:=
 match v,n with
 |none,Ie=>True
 |some v,aa n=> ∃k,v= .int k (n:Int)
 |_,_=>False
theorem sq{len cap:Nat}{lo N mx:O Nat}{vl vh vm:O Value}(D:He vl lo)(S:He vh N)(h3:He vm mx)
 (hm:mx.isSome=Pd->N.isSome=Pd) (rJ:lo.getD 0<=N.getD len) (MY:N.isSome=Pd->N.getD len<=mx.getD cap) (Wh:mx.getD cap<=cap):
 (Instr.sliceBounds Pd len cap vl vh vm).run P w= .ok (lo.getD 0,N.getD len,mx.getD cap) w:=by
 cases mx with
 |none=>
  cases vm with
  |some v=>exact h3.elim
  |none=>
   cases N with
   |none=>
    cases vh with
    |some v=>exact S.elim
    |none=>
     cases lo with
     |none=>
      cases vl with
      |some v=>exact D.elim
      |none=>rfl
     |some l=>
      cases vl with
      |none=>exact D.elim
      |some v=>obtain⟨k,rfl⟩:=D;simp[]at rJ;simp[Instr.sliceBounds,run_sliceBound rJ]
   |some hh=>
    cases vh with
    |none=>exact S.elim
    |some v=>
     obtain⟨k,rfl⟩:=S;simp[]at rJ MY;cases lo with
     |none=>
      cases vl with
      |some v=>exact D.elim
      |none=>simp[Instr.sliceBounds,run_sliceBound MY]
     |some l=>
      cases vl with
      |none=>exact D.elim
      |some v=>obtain⟨k,rfl⟩:=D;simp[]at rJ;simp[Instr.sliceBounds,run_sliceBound MY,run_sliceBound rJ]
 |some m=>
  cases vm with
  |none=>exact h3.elim
  |some v=>
   obtain⟨k,rfl⟩:=h3;cases N with
   |none=>simp at hm
   |some hh=>
    cases vh with
    |none=>exact S.elim
    |some v=>
     obtain⟨k,rfl⟩:=S;simp[]at rJ MY Wh;cases lo with
     |none=>
      cases vl with
      |some v=>exact D.elim
      |none=>simp[Instr.sliceBounds,run_sliceBound MY,run_sliceBound Wh]
     |some l=>
      cases vl with
      |none=>exact D.elim
      |some v=>obtain⟨k,rfl⟩:=D;simp[]at rJ;simp[Instr.sliceBounds,run_sliceBound MY,run_sliceBound rJ,run_sliceBound Wh]
end
end Go.Vm
/- Operation by operation, third part: stores, aggregates. -/
namespace Go.Vm
def uA{α:Type}(off:Nat)(new old:J α):J α:=old.take off++new++old.drop (off+hl new)
theorem kX{α:Type}(off:Nat)(new old:J α)(h:off+hl new<=hl old)(j:Nat):
 (uA off new old)[j]? =if off<=j/\j<off+(hl new)then new[j-off]? else old[j]?:=by
 unfold uA;have I:(old.take off).length=off:=by simp;omega
 grind
theorem dV{α:Type}(off:Nat)(new old:J α)(h:off+hl new<=hl old):(uA off new old).length=(hl old):=by unfold uA;simp;omega
theorem gW.uA{im:Im}{loc:Loc}{off:Nat}{xs ys:J PV}{vs us:J Value}(h:gW im loc xs vs)(k:gW im loc ys us):
 gW im loc (Vm.uA off xs ys) (Vm.uA off vs us):=by
 unfold Vm.uA;rw[<-h.sG];exact((k.take off).append h).append (k.drop _)
theorem gW.aaP{im:Im}{loc:Loc}: ∀{xs:J PV} {vs:J Value},gW im loc xs vs->(∀c∈xs,c.plain=Pd)->
 ∀(j:Nat) (c:PV),xs[j]? =aa c-> ∃v,ob c=aa v/\vs[j]? =aa v:=by
 intro xs vs h hp j c hc;obtain⟨v,hv,hr⟩:=h.get j c hc;exact⟨v,hr.plain (hp c (Pg hc)),hv⟩
theorem hsb{i row aT j off n sh:Nat}(fk:i≠row)(hj:j<aT)(hn:off+n<=aT):
 ¬(sh+row*aT+off<=sh+i*aT+j/\sh+i*aT+j<sh+row*aT+off+n):=by
 rcases Nat.lt_or_gt_of_ne fk with h|h
 ·have:=KJ aT (h)
  grind
 have:=KJ aT (h)
 grind
theorem cw.store{get get':Nat->O Value}{sh aT row off:Nat}{rows:J Row}{cs ws:J PV}{vs:J Value}
 (h:cw get sh aT rows) (hr:rows[row]? =aa cs) (rJ:off+hl ws<=hl cs)
 (hw: ∀(j:Nat) (c:PV),ws[j]? =aa c-> ∃v,ob c=aa v/\vs[j]? =aa v) (I:(hl vs)=hl ws)
 (hg: ∀k,get' k=if sh+row*aT+off<=k/\k<sh+row*aT+off+(hl vs)then vs[k- (sh+row*aT+off)]? else get k):
 cw get' sh aT (rows.set row (uA off ws cs)):=by
 intro i r N;rw[List.getElem?_set]at N;have Ef:row<(hl rows):=by
  grind
 obtain⟨Ls,W8⟩:=h row cs hr;split at N
 ·rename_i e
  subst e;injection N with N;subst N;refine⟨by rw[dV _ _ _ rJ];exact Ls,λj c hc=>?_⟩;rw[kX _ _ _ rJ]at hc
  grind
 rename_i fk
 obtain⟨Xh,hrc⟩:=h i r N;refine⟨Xh,λj c hc=>?_⟩;obtain⟨v,hv,Vh⟩:=hrc j c hc;refine⟨v,hv,?_⟩;have hj:j<aT:=by
  grind
 rw[hg,EQ (hsb (λe=>fk e.symm) hj (by omega))];exact Vh
section
variable {P : Program} {im : Im} {loc : Loc} {aH : dp} {fz : J Nat} {w : World}
theorem cI{g:Nat}{cur cs:Array Value}{t:TypeId}(hg:w.heap[g]? =aa (.cells cur t (0,0))):
 (w.setRow g cs).heap=w.heap.setIfInBounds g (.cells cs t (0,0)):=by
 unfold World.setRow
 grind
theorem aj2{v:Value}(h:(∀us,v≠ .agg us)/\ ∀us,v≠ .tuple us):v.oneCell'=Pd:=by cases v<;>first|rfl|grind|grind
theorem gW.one: ∀{xs:J PV} {vs:J Value},gW im loc xs vs->(∀c∈xs,c.yA=Pd)-> ∀v∈vs,v.oneCell'=Pd
 |_,_,.nil,_,_,hv=>by cases hv
 |_,_,.cons x u xs vs h hs,ho,v,hv=>by
  cases hv with
  |head=>exact aj2 (h.QE (ho x (by simp)))
  |tail _ hm=>exact gW.one hs (λc hc=>ho c (by simp[hc])) v hm
theorem EA{c:PV}(h:c.plain=Pd):c.yA=Pd:=by cases c<;>first|rfl|cases h
theorem Hf{v:PV}{ws:J PV}(h:v.stored=aa ws):ws=v.cells/\ ∀c∈v.cells,c.yA=Pd:=by
 unfold PV.stored at h
 grind
theorem ss{v:PV}{ws:J PV}(h:v.di=aa ws):ws=v.cells/\ ∀c∈v.cells,c.plain=Pd:=by
 unfold PV.di at h
 grind
theorem aaX{t el:TypeId}{sz b o:Nat}{x:Value}{cur:Array Value}(hs:vY P t sz=Pd)(hb:w.heap[b]? =aa (.cells cur el (0,0)))
 (X:x.cells.size=sz) (rJ:o+sz<=cur.size) (D: ∀v∈x.cells.toList,v.oneCell'=Pd):
 (Instr.storeAt t (.pointer (aa ⟨b,o,Ie⟩)) x).run P w= .ok () (w.setRow b (uA o x.cells.toList cur.toList).toArray):=by
 have:=run_storeCells_at P b o el x.cells.toList 0 cur w hb (by simp;omega) D;simp[Instr.storeAt,storeVar,pq hs,X,]
 assumption
theorem KSl{t:TypeId}{sz:Nat}{p v:PV}{u x:Value}{r:v7}(hp:VR im loc p u)(hv:VR im loc v x)(hs:vY P t sz=Pd)
 (h:zp aH fz sz v p=aa r) (hk:nM im loc aH w r):
 ∃w',(Instr.storeAt t u x).run P w= .ok () w'/\Aw im loc aH w r im loc w'/\r.v= .undef:=by
 unfold zp at h;cases p with
 |ptr tk e row off=>
  dsimp only at h;obtain⟨li,I,he,hn,rfl⟩:=hp.FM;cases CS:aH[tk]? with
  |none=>grind
  |some eK=>
   rw[CS]at h;cases eK with
   |arr e' rows=>
    dsimp only at h;cases yL:rows[row]? with
    |none=>grind
    |some cs=>
     cases hw:v.di with
     |none=>grind
     |some ws=>
      rw[yL,hw]at h;dsimp only at h;split at h
      ·rename_i hc
       simp[]at hc;obtain⟨rfl,Va⟩:=ss hw;injection h with h;subst h;obtain⟨k,lL,hb⟩:=hk.tok tk (.inr ⟨_,Mi.2 rfl⟩) li I;rw[CS]at lL;injection lL with lL;subst lL;have fk:rows≠[]:=by grind
       obtain⟨D,S,h3⟩:=hb;obtain⟨arr,el,GB,UY,Sz,qg⟩:=h3 fk;have U':e'=e:=by rw[<-D,he]
       subst U';have Ls:=(qg row cs yL).1;have W9:=hv.cells (λc hc=>EA (Va c hc));have SS:x.cells.size=sz:=by have:=W9.sG;grind
       have Xh:row<(hl rows):=by omega
       have OK:=KJ e' (show row+1<=(hl rows)from Xh);rw[Xc]at OK;have yM:li.sh+row*e'+off+sz<=arr.size:=by omega
       have dG:=aaX hs GB SS yM (W9.one (λc hc=>EA (Va c hc)));refine⟨_,dG,?_,rfl⟩;refine Aw.write hk rfl rfl I CS (by cases rows with|nil=>grind|cons _ _=>rfl) (cI GB) rfl rfl rfl ?_;refine⟨D,by simpa using S,λ_=>⟨(uA (li.sh+row*e'+off) x.cells.toList arr.toList).toArray,el,?_,?_,by simpa using Sz,?_⟩⟩
       ·grind[cI]
       ·grind[Mq,dV]
       refine qg.store yL (by omega) (W9.aaP Va) W9.sG.symm (λk=>?_)
       grind[kX]
      cases h
   |box cs=>
    dsimp only at h;cases hw:v.stored with
    |none=>grind
    |some ws=>
     rw[hw]at h;dsimp only at h;split at h
     ·rename_i hc
      simp[]at hc;obtain⟨⟨⟨Ef,fJ⟩,rJ⟩,Vi⟩:=hc;subst Ef;obtain⟨rfl,JL⟩:=Hf hw;injection h with h;subst h;obtain⟨k,lL,hb⟩:=hk.tok tk (.inr ⟨_,Mi.2 rfl⟩) li I;rw[CS]at lL;injection lL with lL;subst lL;obtain⟨D,S,h3,vs,el,h4,h5,h6⟩:=hb;have W9:=hv.cells JL;have SS:x.cells.size=sz:=by have:=W9.sG;grind
      have hcv:=h6.sG;have dG:=aaX (o:=li.sh+0*e+off) hs h4 SS (by simp[];omega) (W9.one JL);refine⟨_,dG,?_,rfl⟩;refine Aw.write hk rfl rfl I CS rfl (cI h4) rfl rfl rfl ?_;refine⟨by rw[show(yh off v.cells cs).length=(hl cs) by have:=dV off v.cells cs (by omega);assumption];exact D,S,h3,uA off x.cells.toList vs,el,?_,?_,?_⟩
      ·grind[cI]
      ·grind[dV]
      exact gW.uA W9 h6
     cases h
   |_=>cases h
 |_=>cases h
end
end Go.Vm
/- Operation by operation, fourth part: aggregates, rows, slices. -/
namespace Go.Vm
theorem cw.tail{get:Nat->O Value}{sh aT:Nat}{r:Row}{rs:J Row}(h:cw get sh aT (r::rs)):cw get (sh+aT) aT rs:=by
 intro i x X;obtain⟨D,S⟩:=h (i+1) x (by simpa using X)
 grind
theorem cw.drop{get:Nat->O Value}{sh aT:Nat}{rows:J Row}(h:cw get sh aT rows)(n:Nat):cw get (sh+n*aT) aT (rows.drop n):=by
 intro i x X;rw[hi]at X;obtain⟨D,S⟩:=h (n+i) x X
 grind
theorem cw.take{get:Nat->O Value}{sh aT:Nat}{rows:J Row}(h:cw get sh aT rows)(n:Nat):cw get sh aT (rows.take n):=by
 intro i x X;have N:i<n:=by
  grind
 rw[List.getElem?_take_of_lt N]at X;exact h i x X
theorem cw.append{get:Nat->O Value}{sh aT:Nat}{xs ys:J Row}(h:cw get sh aT xs)(k:cw get (sh+hl xs*aT) aT ys):cw get sh aT (xs++ys):=by
 intro i r hr;rcases YI i (hl xs)with N|N
 ·rw[Ii N]at hr;exact h i r hr
 rw[SG N]at hr
 obtain⟨D,S⟩:=k _ r hr;refine⟨D,λj c hc=>?_⟩;obtain⟨v,hv,hg⟩:=S j c hc;refine⟨v,hv,?_⟩;rw[<-hg];congr 1;have:i*aT=hl xs*aT+(i-(hl xs))*aT:=by rw[<-Xc];congr 1;omega
 omega
theorem cw.uK{get:Nat->O Value}{sh aT:Nat}{rows:J Row}(h:cw get sh aT rows): ∀r∈rows,hl r=aT:=by intro r hr;obtain⟨i,N,rfl⟩:=D8.1 hr;exact(h i _ (NE N)).1
theorem qh(r:Row):(bw r).length=(hl r):=by simp[bw]
theorem eS{aT:Nat}: ∀{rows:J Row},(∀r∈rows,hl r=aT)->(rows.flatMap bw).length=hl rows*aT
 | [],_=>by simp
 |r::rs,h=>by
  have ih:=eS (rows:=rs) (λx X=>h x (by simp[X]))
  grind[al,qh,YF,Xc]
theorem cw.flat{get:Nat->O Value}{aT:Nat}: ∀{rows:J Row} {sh:Nat},cw get sh aT rows-> ∀(j:Nat) (v:Value),(rows.flatMap bw)[j]? =aa v->get (sh+j)=aa v
 | [],_,_,j,v,h=>by simp at h
 |r::rs,sh,hr,j,v,h=>by
  rw[SJ]at h;have I:(bw r).length=aT:=by rw[qh];exact hr.uK r (by simp)
  rcases YI j aT with hj|hj
  ·rw[Ii (by omega)]at h
   have:=(Ax (im:=λ_=>Ie) (loc:=λ_=>Ie) hr (i:=0) rfl).2 j v h;simpa using this
  rw[SG (by omega),I]at h
  have:=cw.flat hr.tail (j-aT) v h
  grind
theorem cw.Hg{aT:Nat}: ∀{rows:J Row} {get:Nat->O Value} {sh:Nat},(∀r∈rows,hl r=aT)->(∀r∈rows,∀c∈r,c.plain=Pd)->
 (∀(j:Nat) (v:Value),(rows.flatMap bw)[j]? =aa v->get (sh+j)=aa v)->cw get sh aT rows
 | [],_,_,_,_,_=>by intro i r h;simp at h
 |r::rs,get,sh,I,hp,hg=>by
  have Xh:(bw r).length=aT:=by grind[qh]
  have D:cw get sh aT [r]:=by
   intro i x X;cases i with
   |succ i=>simp at X
   |zero=>
    simp at X;subst X;refine⟨I r (by simp),λj c hc=>?_⟩;have UB:=hp r (by simp) c (Pg hc);obtain⟨v,hv⟩: ∃v,ob c=aa v:=by cases c<;>first|exact⟨_,rfl⟩|cases UB
    refine⟨v,hv,?_⟩;have hj:j<aT:=by
     grind
    have:=hg j v (by rw[SJ,Ii (by omega)];simp[bw,hc,hv]);simpa using this
  have S:cw get (sh+aT) aT rs:=cw.Hg (λx X=>I x (by simp[X])) (λx X=>hp x (by simp[X])) (λj v hj=>by simp_all[SG,Mg]);have:=D.append (by simpa using S);simpa using this
theorem cw.plain{get:Nat->O Value}{sh aT:Nat}{rows:J Row}(h:cw get sh aT rows): ∀r∈rows,∀c∈r,c.plain=Pd:=by intro r hr c hc;obtain⟨i,N,rfl⟩:=D8.1 hr;obtain⟨j,hj,rfl⟩:=D8.1 hc;obtain⟨v,hv,_⟩:=(h i _ (NE N)).2 j _ (NE hj);cases hh:rows[i][j]<;>rw[hh]at hv<;>first|rfl|cases hv
theorem uL{rows:J Row}(hp: ∀r∈rows,∀c∈r,c.plain=Pd): ∀u∈rows.flatMap bw,u.oneCell'=Pd:=by intro u hu;obtain⟨r,hr,hu⟩:=tA.1 hu;obtain⟨c,hc,rfl⟩:=List.mem_map.1 hu;have:=hp r hr c hc;cases c<;>first|rfl|cases this
section
variable {P : Program} {im : Im} {loc : Loc} {aH : dp} {fz : J Nat} {w : World}
theorem JM{aT:Nat}{y:PV}{u:Value}{new:J Row}{tx e':TypeId}(hy:VR im loc y u)(hr:rowsOf aH aT y=aa new)(X:P.underlying tx=aa (.slice e'))
 (bZ: ∀b o,im b=aa o->w.heap[b]? =aa o) (tok: ∀t,t∈nK y-> ∀li,loc t=aa li-> ∃k,aH[t]? =aa k/\BR im loc w li k):
 Src P aT tx u (hl new) (new.flatMap bw) w/\(∀r∈new,hl r=aT)/\(∀r∈new,∀c∈r,c.plain=Pd):=by
 unfold rowsOf at hr;cases y with
 |sl e yg rows=>
  obtain⟨a,cap,rfl,_,_,qg⟩:=hy.uI;cases rows with
  |nil=>
   simp at hr;subst hr;refine⟨?_,by simp,by simp⟩;cases a with
   |none=>exact Src.ofNil w X cap
   |some a=>grind[Src.ofSlice]
  |cons r rs=>
   dsimp only at hr;split at hr
   ·rename_i he
    have he:e=aT:=by simpa using he
    subst he;injection hr with hr;subst hr;obtain⟨b,o,rfl,dU⟩:=qg (by simp);refine⟨Src.ofSlice w X ⟨b,o,Ie⟩ _ cap _ (eS dU.uK) (λj v hj=>?_) (uL dU.plain),dU.uK,dU.plain⟩;rw[yj];exact xI bZ (dU.flat j v hj)
   cases hr
 |own t e off len cap ex=>
  dsimp only at hr;split at hr
  ·rename_i he
   have he:e=aT:=by simpa using he
   subst he;obtain⟨li,a,eL,rfl,I,S,h3,h4,h5,h6,h7⟩:=hy.kW;obtain⟨k,lL,hb⟩:=tok t (by simp[nK]) li I;rw[lL]at hr;cases k with
   |arr e' rows=>
    simp[IR]at hr;subst hr;obtain⟨b1,b2,b3⟩:=hb;have fJ:((rows.drop off).take len).length=len:=by simp;omega
    have U':e'=e:=by rw[<-b1,S]
    subst U';cases rows with
    |nil=>
     have:len=0:=by grind
     subst this;simp;cases a with
     |none=>exact Src.ofNil w X eL
     |some a=>grind[Src.ofSlice]
    |cons r rs=>
     obtain⟨arr,el,GB,UY,Sz,dU⟩:=b3 (by simp);have Eg:=(dU.drop off).take len;rcases h7 with h7|⟨h7,rfl,ab0⟩
     ·have:len=0:=by omega
      subst this;refine⟨?_,by simp,by simp⟩;simp;cases a with
      |none=>exact Src.ofNil w X eL
      |some a=>grind[Src.ofSlice]
     rw[fJ]
     refine⟨Src.ofSlice w X ⟨li.eK,li.sh+off*e',Ie⟩ len eL _ (by rw[eS Eg.uK,fJ]) (λj v hj=>?_) (uL Eg.plain),Eg.uK,Eg.plain⟩;rw[yj];exact pI GB (Eg.flat j v hj)
   |_=>cases hr
  cases hr
 |_=>cases hr
end
end Go.Vm
/- Operation by operation, fifth part: append. -/
namespace Go.Vm
theorem EB: ∀(new:J Row) (i:Nat) (rows:J Row),i+hl new<=hl rows->pX i new rows=uA i new rows
 | [],i,rows,h=>by simp[pX,uA]
 |r::rs,i,rows,h=>by
  simp[YF]at h;rw[pX,EB rs (i+1) (rows.set i r) (by simp;omega)];apply Ml;intro j;rw[kX _ _ _ (by simp;omega),kX _ _ _ (by simp;omega)]
  grind
theorem cw.uA{get get':Nat->O Value}{sh aT i:Nat}{new rows:J Row}(h:cw get sh aT rows)(rJ:i+hl new<=hl rows)
 (I: ∀r∈new,hl r=aT) (hp: ∀r∈new,∀c∈r,c.plain=Pd)
 (hg: ∀k,get' k=if sh+i*aT<=k/\k<sh+i*aT+hl new*aT then(new.flatMap bw)[k- (sh+i*aT)]? else get k):
 cw get' sh aT (uA i new rows):=by
 have S0:=eS I;have old: ∀k r,rows[k]? =aa r->(k<i\/i+hl new<=k)->hl r=aT/\ ∀(j:Nat) (c:PV),r[j]? =aa c-> ∃v,ob c=aa v/\get' (sh+k*aT+j)=aa v:=by
  intro k r hk Zi;obtain⟨D,S⟩:=h k r hk;refine⟨D,λj c hc=>?_⟩;obtain⟨v,hv,Vh⟩:=S j c hc;refine⟨v,hv,?_⟩;have hj:j<aT:=by
   rcases YI j (hl r)with h|h
   ·omega
   rw[Mp h]at hc;cases hc
  rw[hg,EQ]
  ·exact Vh
  rcases Zi with Zi|Zi
  ·have:=KJ aT (show k+1<=i from Zi)
   rw[Xc]at this;omega
  have:=KJ aT Zi
  rw[Xc]at this;omega
 have QG:cw get' (sh+i*aT) aT new:=cw.Hg I hp λj v hj=>by
  have Vb:j<hl new*aT:=by
   rcases YI j (hl new*aT)with h|h
   ·exact h
   rw[Mp (by omega)]at hj;cases hj
  rw[hg,Do ⟨by omega,by omega⟩,<-hj];congr 1;omega
 intro k r hk;rw[kX _ _ _ rJ]at hk;split at hk
 ·rename_i hc
  obtain⟨D,S⟩:=QG _ r hk;refine⟨D,λj c Lt=>?_⟩;obtain⟨v,hv,Vh⟩:=S j c Lt;refine⟨v,hv,?_⟩;rw[<-Vh];congr 1;have:k*aT=i*aT+(k-i)*aT:=by rw[<-Xc];congr 1;omega
  omega
 grind
theorem grownCap_ge(w:World)(Vc old:Nat)(e:TypeId):Vc<=grownCap w Vc old e:=by unfold grownCap;simp[Question.cut]
theorem aaM{Vc old bytes:Nat}(h:old<Vc)(hn:Vc<=1048576)(hb:bytes<=1048576):Builtin.nextslicecap Vc old*bytes<=281474976710656:=by
 have D:=nextslicecap_le h;have S:Builtin.nextslicecap Vc old<=2097152:=by omega
 have:=YC S hb;omega
theorem ab2(z:Array Value)(n:Nat):(Builtin.zeroCells z n).size=n*z.size:=by simp[Builtin.zeroCells]
section
variable {P : Program} {im : Im} {loc : Loc} {aH : dp} {fz : J Nat} {w : World}
theorem nT (t tx ty e:TypeId) (i:TypeInfo) (ht:P.underlying t=aa (.slice e)) (N:P.info? e=aa i) (b off B3 sCap:Nat) (x:Value) (n:Nat) (news:J Value) (hs:Src P i.size tx x n news w)
 (Ay:B3+n<=sCap) {cur:Array Value} {el:TypeId} (hb:w.heap[b]? =aa (.cells cur el (0,0))) (rJ:off+B3*i.size+hl news<=cur.size):
 (Builtin.append_ #[t,tx] ty #[.slice (aa ⟨b,off,Ie⟩) B3 sCap,x]).run P w=
  .ok (.slice (aa ⟨b,off,Ie⟩) (B3+n) sCap) (w.setRow b (uA (off+B3*i.size) news cur.toList).toArray):=by
 have dh:=run_storeCells_at P b (off+B3*i.size) el news 0 cur w hb (by simpa using rJ) hs.one;rcases hs.kind with ⟨e',hk⟩|hk<;>simp [Builtin.append_,run_underlying ht,run_underlying hk,sizeOf,typeInfo,N,hs.len,Ay,hs.cells,Addr.add_lit,dh,uA]
theorem JN{aT:Nat}{olds new:J Row}{rest:Array Value}{el:TypeId}{r:v7}{w':World}{nc:Nat}(hr:r.v= .own (hl aH) aT 0 (hl olds+hl new) (hl olds+hl new) EC)
 (hn:r.news=[.arr aT (olds++new)]) (hk:nM im loc aH w r) (fk:new≠[])
 (hh:w'.heap=w.heap.push (.cells (((olds.flatMap bw)++(new.flatMap bw)).toArray++rest) el))
 (Pf: ∀r∈olds,hl r=aT) (Vo: ∀r∈olds,∀c∈r,c.plain=Pd) (SA: ∀r∈new,hl r=aT) (XJ: ∀r∈new,∀c∈r,c.plain=Pd)
 (p0:(hl olds)+hl new<=nc) (S8:rest.size=(nc- (hl olds+hl new))*aT):
 ∃li:LI,li.eK=w.heap.size/\VR im (loc.set (hl aH) li) r.v (.slice (aa ⟨w.heap.size,0,Ie⟩) (hl olds+hl new) nc)/\
  BR im (loc.set (hl aH) li) w' li (.arr aT (olds++new))/\rD loc (loc.set (hl aH) li):=by
 have ar5:=eS Pf;have ar6:=eS SA;have yB:(((olds.flatMap bw)++(new.flatMap bw)).toArray++rest).size=nc*aT:=by simp[Array.size_append,Mq,al,ar5,ar6,S8];rw[<-Xc,<-Xc];congr 1;omega
 let li:LI:=⟨w.heap.size,0,aT,(olds++new).length,nc*aT⟩
 refine⟨li,rfl,?_,⟨rfl,rfl,λ_=>⟨_,el,by grind,yB,?_,?_⟩⟩,Loc.Ey li (by have:=hk.fresh 0 (by simp[hn]);simpa using this)⟩
 ·rw[hr]
  have:=VR.own (im:=im) (loc:=loc.set (hl aH) li) (hl aH) aT 0 (hl olds+hl new) (hl olds+hl new) EC li (aa ⟨w.heap.size,0,Ie⟩) nc
   (Loc.ij _ _ _) rfl (by simp[li]) (Pc _) p0 (by simp)
   (.inr ⟨by simp[li];grind,by simp[li],by simp[li]⟩)
  exact this
 ·simp[li]
  simp_all[KJ,]
 refine cw.Hg (λr hr=>?_) (λr hr=>?_) (λj v hj=>?_)
 ·rcases Sv.1 hr with h|h
  ·exact Pf r h
  exact SA r h
 ·rcases Sv.1 hr with h|h
  ·exact Vo r h
  exact XJ r h
 grind
end
end Go.Vm
/- Operation by operation, sixth part: append, whole. -/
namespace Go.Vm
section
variable {P : Program} {im : Im} {loc : Loc} {aH : dp} {fz : J Nat} {w : World}
theorem Mh {t tx ty e:TypeId} {i:TypeInfo} {z:Value} {aT:Nat} (ht:P.underlying t=aa (.slice e)) (N:P.info? e=aa i) (hz:i.zero=aa z) (SC:z.cells.size=aT)
 (YE:i.bytes<=1048576) {uM:O Addr} {B3 sCap:Nat} {olds:J Row} {new:J Row} {x:Value}
 (Bn:(Builtin.firstCells i.size B3 (.slice uM B3 sCap)).run P w.drew= .ok (olds.flatMap bw).toArray w.drew)
 (hs:Src P i.size tx x (hl new) (new.flatMap bw) w) (hg:sCap<B3+hl new) (hm:B3+hl new<=1048576):
 ∃(nc:Nat) (rest:Array Value),B3+hl new<=nc/\rest.size=(nc- (B3+hl new))*aT/\
  (Builtin.append_ #[t,tx] ty #[.slice uM B3 sCap,x]).run P w= .ok (.slice (aa ⟨w.heap.size,0,Ie⟩) (B3+hl new) nc)
   (w.drew.alloc (.cells (((olds.flatMap bw)++(new.flatMap bw)).toArray++rest) e)):=by
 refine ⟨_,_,grownCap_ge w _ sCap e,by rw [ab2,SC],
  run_append_grow_src w t tx ty e i z ht N hz uM B3 sCap _ Bn x _ _ hs hg (by omega) (aaM hg hm YE)⟩
theorem abB {t tx ty e e' : TypeId} {i : TypeInfo} {z : Value} {aT : Nat} (ht : P.underlying t = aa (.slice e)) (XF : P.underlying tx = aa (.slice e')) (N : P.info? e = aa i) (yB : i.size = aT)
    (hz : i.zero = aa z) (SC : z.cells.size = aT) (YE : i.bytes <= 1048576)
    {x y : PV} {u v : Value} {r : v7} (X : VR im loc x u) (hy : VR im loc y v) (h : mN aH fz aT x y = aa r) (hk : nM im loc aH w r) :
    ∃ v' w' bK, (Builtin.append_ #[t, tx] ty #[u, v]).run P w = .ok v' w' /\ VR im bK r.v v' /\ Aw im loc aH w r im bK w' := by
  unfold mN at h
  cases KM : rowsOf aH aT y with
  | none => grind
  | some new =>
    rw [KM] at h
    dsimp only at h
    cases new with
    | nil =>
      dsimp only at h
      have key : ∀ (a : O Addr) (n cap : Nat), u = .slice a n cap -> n <= cap -> aa ({ v := x, rd := nK y } : v7) = aa r ->
          ∃ v' w' bK, (Builtin.append_ #[t, tx] ty #[u, v]).run P w = .ok v' w' /\ VR im bK r.v v' /\ Aw im loc aH w r im bK w' := by
        intro a n cap hu rJ hr
        injection hr with hr; subst hr
        obtain ⟨hs, _, _⟩ := JM hy KM XF hk.bZ (fun t ht => hk.tok t (.inl ht))
        simp only [Vg, Ze] at hs
        subst hu
        rw [<- yB] at hs
        exact ⟨_, _, loc, run_append_nothing w t tx ty e i ht N a n cap rJ _ hs, X, Aw.none hk rfl rfl⟩
      have fresh : ∀ (a : O Addr) (rd : J Nat), u = .slice a 0 0 -> (∀ t ∈ nK y, t ∈ rd) -> aa ({ v := .own (hl aH) aT 0 0 0 EC, news := [.arr aT []], rd := rd } : v7) = aa r ->
          ∃ v' w' bK, (Builtin.append_ #[t, tx] ty #[u, v]).run P w = .ok v' w' /\ VR im bK r.v v' /\ Aw im loc aH w r im bK w' := by
        intro a rd hu Xi hr
        injection hr with hr; subst hr
        obtain ⟨hs, _, _⟩ := JM hy KM XF hk.bZ (fun t ht => hk.tok t (.inl (Xi t ht)))
        simp only [Vg, Ze] at hs
        subst hu
        rw [<- yB] at hs
        exact ⟨_, _, _, run_append_nothing w t tx ty e i ht N a 0 0 (Pc _) _ hs, .own _ aT 0 0 0 EC ⟨0, 0, aT, 0, 0⟩ a 0 (Loc.ij _ _ _) rfl (Pc _) (Pc _) (Pc _) (by simp) (.inl rfl), Aw.aaH hk rfl rfl⟩
      cases x with
      | sl e yg rows =>
        obtain ⟨a, cap, hu, rJ, Ls, _⟩ := X.uI
        grind
      | own tk e off len cap ex =>
        obtain ⟨li, a, eL, hu, D, S, h3, h4, h5, h6, _⟩ := X.kW
        dsimp only at h
        split at h
        · rename_i hc
          simp only [PP, vk] at hc
          obtain ⟨⟨rfl, rfl⟩, hc⟩ := hc
          have := h6 hc
          subst this
          exact fresh a _ hu (fun _ h => Vf _ h) h
        grind
      | _ => cases h
    | cons n0 ns =>
      dsimp only at h
      generalize QG : n0 :: ns = new at h KM
      have fk : new ≠ [] := by grind
      have SD : 0 < (hl new) := by grind
      cases x with
      | sl e1 yg rows =>
        dsimp only at h
        split at h
        · rename_i hc
          simp only [PP, Pu, vk, g'] at hc
          obtain ⟨⟨amM, Mj⟩, mP⟩ := hc
          injection h with h
          obtain ⟨a, cap, rfl, OJ, tE, qg⟩ := X.uI
          have ar7 := tE amM
          have CK : nM im loc aH w { v := .own (hl aH) aT 0 ((hl rows) + (hl new)) ((hl rows) + (hl new)) EC, news := [.arr aT (rows ++ new)], rd := nK y } := by rw [h]; exact hk
          obtain ⟨hs, QH, Mw⟩ := JM hy KM XF CK.bZ (fun t ht => CK.tok t (.inl ht))
          rw [<- yB] at hs
          have Bn : (Builtin.firstCells i.size (hl rows) (.slice a (hl rows) cap)).run P w.drew = .ok (rows.flatMap bw).toArray w.drew /\ (∀ r ∈ rows, (hl r) = aT) /\ (∀ r ∈ rows, ∀ c ∈ r, c.plain = Pd) := by
            cases hrw : rows with
            | nil =>
              refine ⟨?_, by simp, by simp⟩
              cases a with
              | none => rfl
              | some a => grind [run_firstCells_some]
            | cons r0 rs =>
              rw [<- hrw]
              have O5 : rows ≠ [] := by rw [hrw]; simp
              obtain ⟨b, o, rfl, dU⟩ := qg O5
              have S9 : e1 = aT := by
                grind
              subst S9
              refine ⟨run_firstCells_some w.drew i.size (hl rows) ⟨b, o, Ie⟩ (hl rows) cap _ (by rw [yB]; exact eS dU.uK) (fun j v hj => ?_), dU.uK, dU.plain⟩
              rw [yj]
              exact xI CK.bZ (dU.flat j v hj)
          obtain ⟨Bn, ra, je⟩ := Bn
          obtain ⟨nc, rest, p0, S8, dG⟩ := Mh ht N hz SC YE Bn hs (by omega) (by assumption)
          obtain ⟨li, TN, wc, Az, rJ⟩ := JN
            (w' := w.drew.alloc (.cells (((rows.flatMap bw) ++ (new.flatMap bw)).toArray ++ rest) e)) rfl rfl CK fk rfl ra je QH Mw p0 S8
          subst h
          exact ⟨_, _, _, dG, wc, Aw.new CK li rfl rfl rfl rfl rfl rfl TN Az⟩
        cases h
      | own tk e1 off len cap ex =>
        dsimp only at h
        obtain ⟨li, a, eL, rfl, I, he, JK, fJ, OJ, hex, Lu⟩ := X.kW
        cases dh : aH[tk]? with
        | none => grind
        | some eK =>
          rw [dh] at h
          cases eK with
          | arr e2 rows =>
            dsimp only at h
            split at h
            · cases h
            rename_i U'
            have U' : e1 = aT := by simpa using U'
            subst U'
            split at h
            ·
              rename_i Ay
              have Ay : len + (hl new) <= cap := by simpa using Ay
              split at h
              · cases h
              rename_i Vi
              injection h with h
              subst h
              obtain ⟨hs, QH, Mw⟩ := JM hy KM XF hk.bZ (fun t ht => hk.tok t (.inl ht))
              rw [<- yB] at hs
              obtain ⟨k, lL, hb⟩ := hk.tok tk (.inr ⟨_, Mi.2 rfl⟩) li I
              rw [dh] at lL; injection lL with lL; subst lL
              obtain ⟨b1, b2, b3⟩ := hb
              have xJ : rows ≠ [] := by grind
              have D7 : e2 = e1 := by rw [<- b1, he]
              subst D7
              obtain ⟨arr, el, GB, UY, Sz, dU⟩ := b3 xJ
              rcases Lu with h0 | ⟨_, rfl, yM⟩
              · omega
              have SF := eS QH
              have OK := KJ e2 (show off + (len + (hl new)) <= (hl rows) by omega)
              have Vd : (off + (len + (hl new))) * e2 = off * e2 + len * e2 + (hl new) * e2 := by grind
              have QI : li.sh + off * e2 + len * i.size + (new.flatMap bw).length <= arr.size := by grind
              have dG := nT t tx ty e i ht N li.eK (li.sh + off * e2) len eL v (hl new) (new.flatMap bw) hs (by omega) GB QI
              refine ⟨_, _, loc, dG, ?_, ?_⟩
              · exact .own tk e2 off (len + (hl new)) cap ex li _ eL I he JK Ay OJ hex (.inr ⟨by omega, rfl, yM⟩)
              refine Aw.write hk rfl rfl I dh (by cases rows with | nil => grind | cons _ _ => rfl) (cI GB) rfl rfl rfl ?_
              rw [EB _ _ _ (by omega)]
              refine ⟨b1, by grind [dV], fun _ => ⟨(uA (li.sh + off * e2 + len * i.size) (new.flatMap bw) arr.toList).toArray, el, ?_, ?_, ?_, ?_⟩⟩
              · grind [cI]
              · grind [Mq, dV]
              · rw [dV _ _ _ (by omega)]; exact Sz
              refine dU.uA (by omega) QH Mw (fun k => ?_)
              simp only [YJ]
              rw [kX _ _ _ (by simpa using QI), SF]
              have : li.sh + off * e2 + len * i.size = li.sh + (off + len) * e2 := by rw [yB, Xc]; omega
              rw [this]
              simp
            rename_i Ay
            have Ay : ¬ (len + (hl new) <= cap) := by simpa using Ay
            split at h
            · cases h
            rename_i mP
            have mP : len + (hl new) <= 1048576 := by simpa [gX] using mP
            have old : ∀ (rd : J Nat) (wr : J (Nat × pT)), (tk ∈ rd \/ ∃ k, (tk, k) ∈ wr) ->
                nM im loc aH w { v := .own (hl aH) e1 0 (len + (hl new)) (len + (hl new)) EC, news := [.arr e1 ((rows.drop off).take len ++ new)], wr := wr, rd := rd } ->
                (Builtin.firstCells i.size len (.slice a len eL)).run P w.drew = .ok (((rows.drop off).take len).flatMap bw).toArray w.drew /\ ((rows.drop off).take len).length = len /\
                  (∀ r ∈ (rows.drop off).take len, (hl r) = e1) /\ (∀ r ∈ (rows.drop off).take len, ∀ c ∈ r, c.plain = Pd) := by
              intro rd wr Lv CK
              obtain ⟨k, lL, hb⟩ := CK.tok tk Lv li I
              rw [dh] at lL; injection lL with lL; subst lL
              obtain ⟨b1, b2, b3⟩ := hb
              have D7 : e2 = e1 := by rw [<- b1, he]
              subst D7
              have H9 : ((rows.drop off).take len).length = len := by simp; omega
              by_cases UZ : len = 0
              · subst UZ
                refine ⟨?_, H9, by simp, by simp⟩
                simp only [List.take_zero, Vg]
                cases a with
                | none => exact run_firstCells_none w.drew i.size 0 0 eL
                | some a => exact run_firstCells_some w.drew i.size 0 a 0 eL [] (by simp) (by simp)
              have xJ : rows ≠ [] := by intro e; subst e; simp at H9; omega
              obtain ⟨arr, el, GB, UY, Sz, dU⟩ := b3 xJ
              have Eg := (dU.drop off).take len
              rcases Lu with h0 | ⟨_, rfl, _⟩
              · omega
              refine ⟨run_firstCells_some w.drew i.size len _ len eL _ (by rw [yB, eS Eg.uK, H9]) (fun j v hj => ?_), H9, Eg.uK, Eg.plain⟩
              rw [yj]
              exact pI GB (Eg.flat j v hj)
            split at h
            ·
              rename_i amO
              injection h with h
              have CK : nM im loc aH w { v := .own (hl aH) e1 0 (len + (hl new)) (len + (hl new)) EC, news := [.arr e1 ((rows.drop off).take len ++ new)], wr := [], rd := tk :: nK y } := by rw [h]; exact hk
              obtain ⟨Bn, H9, ra, je⟩ := old (tk :: nK y) [] (.inl (by simp)) CK
              obtain ⟨hs, QH, Mw⟩ := JM hy KM XF CK.bZ (fun t ht => CK.tok t (.inl (Vf _ ht)))
              rw [<- yB] at hs
              have hce := hex amO
              obtain ⟨nc, rest, p0, S8, dG⟩ := Mh ht N hz SC YE Bn hs (by omega) mP
              obtain ⟨lj, TN, wc, Az, rJ⟩ := JN (im := im) (loc := loc) (olds := (rows.drop off).take len) (new := new) (r := { v := .own (hl aH) e1 0 (len + (hl new)) (len + (hl new)) EC, news := [.arr e1 ((rows.drop off).take len ++ new)], wr := [], rd := tk :: nK y })
                (w' := w.drew.alloc (.cells (((((rows.drop off).take len).flatMap bw) ++ (new.flatMap bw)).toArray ++ rest) e)) (by rw [H9]) rfl CK fk rfl ra je QH Mw (by rw [H9]; exact p0) (by rw [H9]; exact S8)
              subst h
              rw [H9] at wc
              exact ⟨_, _, _, dG, wc, Aw.new CK lj rfl rfl rfl rfl rfl rfl TN Az⟩
            rename_i amO
            split at h
            · cases h
            rename_i Vi
            injection h with h
            have CK : nM im loc aH w { v := .own (hl aH) e1 0 (len + (hl new)) (len + (hl new)) EC, news := [.arr e1 ((rows.drop off).take len ++ new)], wr := [(tk, .dead)], rd := nK y } := by rw [h]; exact hk
            obtain ⟨Bn, H9, ra, je⟩ := old (nK y) [(tk, .dead)] (.inr ⟨_, Mi.2 rfl⟩) CK
            obtain ⟨hs, QH, Mw⟩ := JM (P := P) (w := w) hy KM XF CK.bZ (fun t ht => CK.tok t (.inl ht))
            have Eh := hs
            rw [<- yB] at hs
            subst h
            rcases YI eL (len + (hl new)) with hg | hg
            ·
              obtain ⟨nc, rest, p0, S8, dG⟩ := Mh (P := P) (w := w) (tx := tx) (ty := ty) ht N hz SC YE (sCap := eL) Bn hs hg mP
              obtain ⟨lj, TN, wc, Az, rJ⟩ := JN (im := im) (loc := loc) (olds := (rows.drop off).take len) (new := new) (r := { v := .own (hl aH) e1 0 (len + (hl new)) (len + (hl new)) EC, news := [.arr e1 ((rows.drop off).take len ++ new)], wr := [(tk, .dead)], rd := nK y })
                (w' := w.drew.alloc (.cells (((((rows.drop off).take len).flatMap bw) ++ (new.flatMap bw)).toArray ++ rest) e)) (by rw [H9]) rfl CK fk rfl ra je QH Mw (by rw [H9]; exact p0) (by rw [H9]; exact S8)
              rw [H9] at wc
              refine ⟨_, _, _, dG, wc, ?_⟩
              have uM := Aw.new (r := { v := .own (hl aH) e1 0 (len + (hl new)) (len + (hl new)) EC, news := [.arr e1 ((rows.drop off).take len ++ new)], wr := [], rd := nK y })
                (w' := w.drew.alloc (.cells (((((rows.drop off).take len).flatMap bw) ++ (new.flatMap bw)).toArray ++ rest) e))
                ⟨CK.bZ, fun t ht => CK.tok t (by rcases ht with ht | ⟨k, ht⟩; exact .inl ht; cases ht), fun t k h => absurd h (by simp), CK.fresh, fun t u li lj k k' D S => CK.mE t u li lj k k' (by rcases D with h | ⟨k, h⟩; exact .inl h; cases h) (by rcases S with h | ⟨k, h⟩; exact .inl h; cases h)⟩ lj rfl rfl rfl rfl rfl rfl TN Az
              exact { kx := uM.kx, fA := uM.fA, bZ := uM.bZ, fG := uM.fG, os := uM.os, tape := uM.tape, output := uM.output, size := uM.size,
                      frame := fun b hb _ => uM.frame b hb (fun t k li k0 h => absurd h (by simp)),
                      YA := (fun t k hm hs => by
                        obtain ⟨rfl, rfl⟩ : t = tk /\ k = .dead := by simpa using hm
                        cases hs),
                      wr := fun t k li hm sH => by
                        obtain ⟨rfl, rfl⟩ : t = tk /\ k = .dead := by simpa using hm
                        trivial,
                      pU := uM.pU,
                      news := fun j k li hj I => by
                        obtain ⟨S, h3⟩ := uM.news j k li hj I
                        refine ⟨S, fun hs => ⟨(h3 hs).1, ?_⟩⟩
                        rcases (h3 hs).2 with h | ⟨t, lt, k0, hm, _⟩
                        · exact .inl h
                        exact absurd hm (by simp),
                      distinct := uM.distinct }
            ·
              obtain ⟨k, lL, hb⟩ := CK.tok tk (.inr ⟨_, Mi.2 rfl⟩) li I
              rw [dh] at lL; injection lL with lL; subst lL
              obtain ⟨b1, b2, b3⟩ := hb
              have D7 : e2 = e1 := by rw [<- b1, he]
              subst D7
              rcases Lu with h0 | ⟨Nl, rfl, yM⟩
              · omega
              have xJ : rows ≠ [] := by intro e; subst e; simp at b2; omega
              obtain ⟨arr, el, GB, UY, Sz, dU⟩ := b3 xJ
              have Eg := (dU.drop off).take len
              have SF := eS QH
              have amP := eS ra
              rw [H9] at amP
              have OK := KJ e2 (show off + (len + (hl new)) <= off + eL by omega)
              have Vd : (off + (len + (hl new))) * e2 = off * e2 + len * e2 + (hl new) * e2 := by rw [Xc, Xc]; omega
              have QI : li.sh + off * e2 + len * i.size + (new.flatMap bw).length <= arr.size := by rw [yB, SF]; omega
              have dG := nT (P := P) (w := w) t tx ty e i ht N li.eK (li.sh + off * e2) len eL v (hl new) (new.flatMap bw) hs hg GB QI
              have Xa := cI (cs := (uA (li.sh + off * e2 + len * i.size) (new.flatMap bw) arr.toList).toArray) GB
              have iY := (SH.1 GB).1
              have JO : (pT.arr e2 rows).cu = Pd := by cases rows with | nil => exact absurd rfl xJ | cons _ _ => rfl
              have Mk := CK.free tk .dead (Mi.2 rfl) li (.arr e2 rows) I dh JO
              let lj : LI := ⟨li.eK, li.sh + off * e2, e2, ((rows.drop off).take len ++ new).length, li.sz⟩
              have O4 : loc (hl aH) = Ie := by have := CK.fresh 0 (by simp); simpa using this
              have hlj : lj.n = len + (hl new) := by simp only [lj, al, H9]
              refine ⟨_, _, loc.set (hl aH) lj, dG, ?_, ?_⟩
              · exact .own (hl aH) e2 0 (len + (hl new)) (len + (hl new)) EC lj _ eL (Loc.ij _ _ _) rfl (by omega) (Pc _) hg (by simp)
                  (.inr ⟨by omega, by simp [lj], by simp only [lj, KN]; rw [Xc] at yM; omega⟩)
              have Az : BR im (loc.set (hl aH) lj) (w.setRow li.eK (uA (li.sh + off * e2 + len * i.size) (new.flatMap bw) arr.toList).toArray) lj (.arr e2 ((rows.drop off).take len ++ new)) := by
                refine ⟨rfl, rfl, fun _ => ⟨(uA (li.sh + off * e2 + len * i.size) (new.flatMap bw) arr.toList).toArray, el, by rw [Xa]; simp [lj, iY], ?_, ?_, ?_⟩⟩
                · simp only [lj, Mq]
                  rw [dV _ _ _ (by simpa using QI)]; simpa using UY
                · simp only [lj, al, H9]
                  rw [Xc]; rw [Vd] at OK; omega
                refine cw.Hg (fun r hr => ?_) (fun r hr => ?_) (fun j u hj => ?_)
                · rcases Sv.1 hr with h | h
                  · exact ra r h
                  exact QH r h
                · rcases Sv.1 hr with h | h
                  · exact je r h
                  exact Mw r h
                rw [List.flatMap_append] at hj
                simp only [lj, YJ]
                rw [kX _ _ _ (by simpa using QI), SF, yB]
                rcases YI j (len * e2) with Vb | Vb
                · rw [Ii (by omega)] at hj
                  rw [EQ (by omega)]
                  have := Eg.flat j u hj
                  simpa using this
                rw [SG (by omega), amP] at hj
                have hjb := (Sw.1 hj).1
                rw [Do ⟨by omega, by omega⟩, <- hj]
                congr 1
                omega
              exact { kx := .refl _, fA := Loc.Ey lj O4,
                      bZ := fun b o hb => by
                        have D := CK.bZ b o hb
                        have RW : li.eK ≠ b := fun e => by rw [e, hb] at Mk; cases Mk
                        rw [Xa, xc, EQ RW]; exact D,
                      fG := fun _ _ h => .inl h, os := rfl, tape := ⟨rfl, Pc _⟩, output := rfl,
                      size := by rw [Xa]; simp,
                      YA := (fun t k hm hs => by
                        obtain ⟨rfl, rfl⟩ : t = tk /\ k = .dead := by simpa using hm
                        cases hs),
                      frame := fun b _ hb => by
                        have RW := hb tk .dead li _ (Mi.2 rfl) I dh JO
                        rw [Xa, xc, EQ RW],
                      wr := fun t k li hm sH => by
                        obtain ⟨rfl, rfl⟩ : t = tk /\ k = .dead := by simpa using hm
                        trivial,
                      pU := fun t l h => by
                        unfold Loc.set at h
                        split at h
                        · rename_i e; subst e; exact .inr ⟨Pc _, by simp⟩
                        exact .inl h,
                      news := JJ (fun j k hj => by
                        cases j with
                        | zero =>
                          simp at hj; subst hj
                          exact ⟨lj, Loc.ij _ _ _, Az, fun _ => ⟨Mk, .inr ⟨tk, li, _, Mi.2 rfl, I, dh, JO, rfl⟩⟩⟩
                        | succ j => simp at hj),
                      distinct := fun i j ki kj li lj D S _ _ _ _ _ => by
                        cases i <;> cases j <;> simp at D S <;> rfl }
          | _ => cases h
      | _ => cases h
end
end Go.Vm
/- Operation by operation, seventh part: aggregates and rows that are built, slices that are cut. -/
namespace Go.Vm
section
variable {P : Program} {im : Im} {loc : Loc} {aH : dp} {fz : J Nat} {w : World}
theorem abF{α β:Type}(f:α->Sem β)(g:α->β):
 ∀(xs:J α),(∀a∈xs,(f a).run P w= .ok (g a) w)-> ∀(acc:Array β),(xs.foldlM (λbs a=>bs.push<$>f a) acc).run P w= .ok (acc++(xs.map g).toArray) w
 | [],_,acc=>by simp
 |x::xs,h,acc=>by simp only[List.foldlM_cons,Md,Sem.run_map,h x (by simp),Y,abF f g xs (λa ha=>h a (by simp[ha]))];simp
theorem k3'{α β:Type}(f:α->Sem β)(g:α->β)(xs:Array α)(h: ∀a∈xs,(f a).run P w= .ok (g a) w):(xs.mapM f).run P w= .ok (xs.map g) w:=by
 rw[Array.mapM_eq_foldlM,<-Array.foldlM_toList,abF f g xs.toList (λa ha=>h a (by simpa using ha))]
 congr 1
 grind
theorem ac6(off:Nat): ∀(xs:J Value) (k:Nat) (cells:Array Value),off+k+hl xs<=cells.size->
 ((xs.zipIdx k).foldl (λ(cs:Array Value) (p:Value×Nat)=>cs.setIfInBounds (off+p.2) p.1) cells).toList=uA (off+k) xs cells.toList
 | [],k,cells,_=>by simp[uA]
 |x::xs,k,cells,h=>by
  simp[]at h;rw[List.zipIdx_cons,Su,ac6 off xs _ _ (by simp;omega)];apply Ml;intro j;rw[kX _ _ _ (by simp;omega),kX _ _ _ (by simp;omega)]
  grind
theorem FN{place:Nat->O _}{i off size:Nat}{v:Value}{rest:J _}{cells:Array Value}(hp:place i=aa (off,size))(hs:v.cells.size=size)
 (hf:off+size<=cells.size):Instr.fill place cells ((i,v)::rest)=Instr.fill place ⟨uA off v.cells.toList cells.toList⟩ rest:=by
 have he:(v.cells.zipIdx.foldl (λcs (c,j)=>cs.setIfInBounds (off+j) c) cells)=⟨uA off v.cells.toList cells.toList⟩:=by apply QK;rw[<-Array.foldl_toList,Array.toList_zipIdx];have:=ac6 off v.cells.toList 0 cells (by simp;omega);simpa using this
 simp[Instr.fill,]
 grind
inductive B5(im:Im)(loc:Loc)(place:Nat->Option (Nat×Nat)):List (Nat×Nat×PV)->List (Nat×Value)->Prop
 |nil:B5 im loc place [] []
 |cons(off sz i:Nat)(x:PV)(v:Value)(r:List (Nat×Nat×PV))(s:List (Nat×Value))(hp:place i=aa (off,sz))(hv:VR im loc x v)(h:B5 im loc place r s):
  B5 im loc place ((off,sz,x)::r) ((i,v)::s)
theorem ach{place:Nat->O _}: ∀{ps:J _} {qs:J _},B5 im loc place ps qs-> ∀{cs Pb:J PV} {vs:Array Value},
 gW im loc cs vs.toList->tf ps cs=aa Pb-> ∃U1,Instr.fill place vs qs=aa U1/\gW im loc Pb U1.toList
 |_,_,.nil,cs,Pb,vs,h,hf=>by simp[tf,]at hf;subst hf;exact⟨vs,rfl,h⟩
 |_,_,.cons off sz i x v r s hp hv hr,cs,Pb,vs,h,hf=>by
  simp only[tf]at hf;cases dh:x.stored with
  |none=>grind
  |some ws=>
   rw[dh]at hf;dsimp only at hf;split at hf
   ·rename_i hc
    simp[]at hc;obtain⟨rfl,JL⟩:=Hf dh;have W9:=hv.cells JL;have I:=W9.sG;have Ls:=h.sG;simp[]at I Ls;rw[FN hp (by omega) (by omega)];exact ach hr (gW.uA W9 h) hf
   cases hf
theorem hp'{t:TypeId}{fs:Array Field}(hu:P.underlying t=aa (.struct fs))(hf: ∀f∈fs,(P.info? f.type).isSome=Pd):
 (fs.mapM λf=>do pure (f.offset,<-sizeOf f.type):Sem _).run P w= .ok (fs.map λf=>(f.offset,P.cellsOf f.type)) w/\
 (λi=>(fs.map λf=>(f.offset,P.cellsOf f.type))[i]?)=placeOf P t:=by
 constructor
 ·refine k3' _ _ _ λf hm=>?_
  obtain⟨i,N⟩:=GH.1 (hf f hm);simp[sizeOf,typeInfo,N,Program.cellsOf]
 funext i
 unfold placeOf;rw[hu];cases RX:fs[i]? with
 |none=>simp[RX]
 |some f=>obtain⟨j,hj⟩:=GH.1 (hf f (Array.mem_of_getElem? RX));simp[RX,hj,Program.cellsOf]
theorem sll{t:TypeId}{zero cs:J PV}{ps:J _}{qs:Array _}(hz:Bl P t zero=Pd)
 (vV:(match P.underlying t with|some (.struct fs)=>fs.all λf=>(P.info? f.type).isSome|some (.array _ e)=>(P.info? e).isSome|_=>EC)=Pd)
 (hr:B5 im loc (placeOf P t) ps qs.toList) (hf:tf ps zero=aa cs): ∃v,(Instr.build t qs).run P w= .ok v w/\VR im loc (.agg cs) v:=by
 unfold Bl at hz;cases N:P.info? t with
 |none=>grind
 |some i=>
  rw[N]at hz;cases Ve:i.zero with
  |none=>simp[Ve]at hz
  |some z=>
   simp[Ve]at hz;have Xb:(zeroValue t).run P w= .ok z w:=by simp[zeroValue,typeInfo,N,Ve]
   obtain⟨U1,D,S⟩:=ach hr (Ex hz) hf;refine⟨.agg U1,?_,.agg cs U1.toList S⟩;cases hu:P.underlying t with
   |none=>grind
   |some d=>
    rw[hu]at vV;cases d<;>first|cases vV|skip
    case array n e=>
     obtain⟨j,hj⟩:=GH.1 vV;have hp:(λi=>aa (i*j.size,j.size))=placeOf P t:=by funext i;unfold placeOf;grind
     have yB:(sizeOf e).run P w= .ok j.size w:=by simp[sizeOf,typeInfo,hj]
     simp[Instr.build,Xb,run_underlying hu,yB,hp,D,]
    case struct fs=>
     have yN: ∀f∈fs,(P.info? f.type).isSome=Pd:=by intro f hf;have:=Array.all_eq_true.1 vV;obtain⟨k,hk,rfl⟩:=Array.mem_iff_getElem.1 hf;exact this k hk
     obtain⟨hm,hp⟩:=hp' (w:=w) hu yN;simp only[Instr.build,Md,Xb,run_underlying hu,Y,hm,hp,D,YH]
theorem JP{zero:Row}{zs:Array Value}(h: ∀(j:Nat) (c:PV),zero[j]? =aa c-> ∃v,ob c=aa v/\zs[j]? =aa v)(I:(hl zero)=zs.size)(n:Nat):
 cw (λk=>((KO (n*zs.size)).map (zs[· %zs.size]!))[k]?) 0 zs.size (SI n zero):=by
 intro i r hr;have N:i<n:=by
  rcases YI i n with h|h
  ·exact h
  rw[Mp (by simpa using h)]at hr;cases hr
 rw[List.getElem?_replicate,Do N]at hr;injection hr with hr;subst hr;refine⟨I,λj c hc=>?_⟩;obtain⟨v,hv,hz⟩:=h j c hc;have hj:=(SH.1 hz).1;have iY:i*zs.size+j<n*zs.size:=by have:=KJ zs.size (show i+1<=n from N);rw[Xc]at this;omega
 have aBE:(i*zs.size+j)%zs.size=j:=by rw[Nat.mul_comm,Nat.mul_add_mod];exact Nat.mod_eq_of_lt hj
 grind
inductive ED(im:Im)(loc:Loc):List (Nat×PV)->List (Nat×Value)->Prop
 |nil:ED im loc [] []
 |cons(i:Nat)(x:PV)(v:Value)(r:List (Nat×PV))(s:List (Nat×Value))(hv:VR im loc x v)(h:ED im loc r s):ED im loc ((i,x)::r) ((i,v)::s)
theorem acl{aT n : Nat} : ∀ {ps : J _} {qs : J _}, ED im loc ps qs -> ∀ {rows yC : J Row} {vs : Array Value},
    cw (λk => vs[k]?) 0 aT rows -> vs.size = n * aT -> (hl rows) = n -> xF ps rows aT = aa yC ->
    ∃ U1, Instr.fill (λi => aa (i * aT, aT)) vs qs = aa U1 /\ cw (λk => U1[k]?) 0 aT yC /\ U1.size = n * aT /\ (hl yC) = n
  | _, _, .nil, rows, yC, vs, h, hs, hn, hf => by
    simp[xF, ]at hf
    subst hf
    exact⟨vs, rfl, h, hs, hn⟩
  | _, _, .cons i x v r s hv hr, rows, yC, vs, h, hs, hn, hf => by
    simp[xF]at hf
    cases dh : x.di with
    | none => grind
    | some ws =>
      rw[dh]at hf
      dsimp only at hf
      split at hf
      ·have JQ : i < (hl rows) := by simp_all
       obtain⟨rfl, Va⟩ := ss dh
       have W9 := hv.cells (λc hc => EA (Va c hc))
       have I := W9.sG
       simp[]at I
       have OK := KJ aT (show i + 1 <= n by omega)
       rw[Xc]at OK
       rw[FN rfl (by omega) (by omega)]
       have hgi := NE JQ
       have hil := (h i _ hgi).1
       have amQ := h.store (get' := λk => (⟨uA (i * aT) v.cells.toList vs.toList⟩ : Array Value)[k]?) (off := 0) hgi (by omega) (W9.aaP Va) (by simp; omega) (λk => by
         grind[kX])
       have ar9 : uA 0 x.cells rows[i] = x.cells := by
         unfold uA; grind
       rw[ar9]at amQ
       exact acl hr amQ (by grind[Mq, dV]) (by simpa using hn) hf
      cases hf
end
end Go.Vm
/- Operation by operation, last part: all of them. -/
namespace Go.Vm
def qd.iV:qd->J jd
 | .SP x| .un _ x| .conv _ x| .len x| .box x| .load _ x| .Sj x| .Sk _ x| .fD _ _ x| .ext _ x=>[x]
 | .pick a b c=>[a,b,c]
 | .bin _ x y| .Si _ x y| .MV _ _ x y| .store _ x y| .Sl _ x y| .KH _ _ x y| .idx _ _ _ x y| .Sm x y| .mo _ _ x y| .append _ x y| .copy _ x y=>[x,y]
 | .build _ ps=>ps.map (·.2.2)
 | .Ia _ _ _ ps=>ps.map (·.2)
 | .KG x y=>[x,y]
 | .Yx _ x a b c=>x::(a.toList++b.toList++c.toList)
 | .km _ a b=>a++b
 | .lookup _ _ _ m k=>[m,k]
 | .Qx _ m k v=>[m,k,v]
 | .clear _ _ x=>[x]
 | .mm _ x xs=>x::xs
 | .call _ _ as=>as
 | .D3 x as=>x::as
 | .U7 _| .alloc _| .MW _| .bad=>[]
section
variable {P : Program} {im : Im} {loc : Loc} {aH : dp} {fz : J Nat} {w : World} {e : Env} {ρ : Operand -> Value}
theorem tz: ∀{xs:J jd} {os:J Operand},(∀x∈xs,∀o,bT x o=Pd->VR im loc (x.ev e) (ρ o))->gY xs os=Pd->gW im loc (U8 e xs) (os.map ρ)
 | [],[],_,_=> .nil
 |x::xs,o::os,h,hc=>by simp[gY,PP]at hc;exact .cons _ _ _ _ (h x (by simp) o hc.1) (tz (λy hy=>h y (by simp[hy])) hc.2)
 | [],_::_,_,hc=>by simp[gY]at hc
 |_::_,[],_,hc=>by simp[gY]at hc
theorem adb{place:Nat->O (Nat×Nat)}: ∀{ps:J (Nat×Nat×jd)} {qs:J (Nat×Operand)},(∀x∈ps.map (·.2.2),∀o,bT x o=Pd->VR im loc (x.ev e) (ρ o))->B2 place ps qs=Pd->
 B5 im loc place (ps.map λp=>(p.1,p.2.1,p.2.2.ev e)) (qs.map λ(i,x)=>(i,ρ x))
 | [],[],_,_=> .nil
 |(off,sz,x)::r,(i,o)::s,h,hc=>by
  simp[B2,PP]at hc;obtain⟨⟨D,S⟩,h3⟩:=hc;refine .cons off sz i _ _ _ _ ?_ (h x (by simp) o S) (adb (λy hy=>h y (by simp only[List.map_cons,D5];exact .inr hy)) h3)
  grind
 | [],_::_,_,hc=>by simp[B2]at hc
 |_::_,[],_,hc=>by simp[B2]at hc
theorem ado: ∀{ps:J (Nat×jd)} {qs:J (Nat×Operand)},(∀x∈ps.map (·.2),∀o,bT x o=Pd->VR im loc (x.ev e) (ρ o))->tu ps qs=Pd->
 ED im loc (ps.map λp=>(p.1,p.2.ev e)) (qs.map λ(i,x)=>(i,ρ x))
 | [],[],_,_=> .nil
 |(i,x)::r,(j,o)::s,h,hc=>by simp[tu,PP,beq_iff_eq]at hc;obtain⟨⟨rfl,S⟩,h3⟩:=hc;exact .cons i _ _ _ _ (h x (by simp) o S) (ado (λy hy=>h y (by grind)) h3)
 | [],_::_,_,hc=>by simp[tu]at hc
 |_::_,[],_,hc=>by simp[tu]at hc
theorem Mm{t:TypeId}{zero:Row}(h:Bl P t zero=Pd)(hp:zero.all PV.plain=Pd):
 ∃i z,P.info? t=aa i/\i.zero=aa z/\hl zero=z.cells.size/\ ∀(j:Nat) (c:PV),zero[j]? =aa c-> ∃v,ob c=aa v/\z.cells[j]? =aa v:=by
 unfold Bl at h;cases N:P.info? t with
 |none=>grind
 |some i=>
  rw[N]at h;cases hz:i.zero with
  |none=>simp[hz]at h
  |some z=>
   simp[hz]at h;have hr:gW (λ_=>Ie) (λ_=>Ie) zero z.cells.toList:=Ex h;refine⟨i,z,rfl,hz,by simpa using hr.sG,λj c hc=>?_⟩;obtain⟨v,hv,Vh⟩:=hr.get j c hc;refine⟨v,Vh.plain ?_,by simpa using hv⟩
   grind
theorem ae2{aT n len cap:Nat}{rows:J Row}{vs:Array Value}{el:TypeId}{r:v7}(hr:r={v:= .own (hl aH) aT 0 len cap Pd,news:=[.arr aT rows]})(hk:nM im loc aH w r)
 (dU:cw (λk=>vs[k]?) 0 aT rows) (hs:vs.size=n*aT) (hn:(hl rows)=n) (hc:cap=n) (I:len<=cap):
 ∃bK,VR im bK r.v (.slice (aa ⟨w.heap.size,0,Ie⟩) len cap)/\Aw im loc aH w r im bK {w with heap:=w.heap.push (.cells vs el)}:=by
 subst hr hc
 let li:LI:=⟨w.heap.size,0,aT,cap,vs.size⟩
 refine⟨loc.set (hl aH) li,?_,?_⟩
 ·refine .own (hl aH) aT 0 len cap Pd li _ cap (Loc.ij _ _ _) rfl (by simp[li]) I (Pc _) (λ_=>rfl) ?_
  grind
 exact Aw.new hk li rfl rfl rfl rfl rfl rfl rfl ⟨rfl,hn.symm,λ_=>⟨vs,el,by simp[li],rfl,by grind,dU⟩⟩
theorem ae8{uE:Bool}{k:IntKind}: ∀{ys:J PV} {us:J Value},gW im loc ys us-> ∀{a:Int} {z:PV},To uE k a ys=aa z->
 ∃b,z= .int k b/\(us.foldlM (if uE then Builtin.max2 else Builtin.min2) (.int k a)).run P w= .ok (.int k b) w
 |_,_,.nil,a,z,h=>by simp[To,]at h;simp_all
 |_,_,.cons y u ys us hy hs,a,z,h=>by
  unfold To at h;cases y with
  |int l c=>
   obtain rfl:=hy.jT;dsimp only at h;cases Xk:iA k l with
   |false=>grind
   |true=>
    have:=hZ.1 Xk;rw[Xk,Do rfl]at h;obtain⟨b,hz,ih⟩:=ae8 hs h;refine⟨b,hz,?_⟩;cases uE with
    |true=>assumption
    |false=>assumption
  |_=>cases h
end
end Go.Vm
/- Operation by operation: all that call nothing. -/
namespace Go.Vm
def WQ(P:Program)(ρ:Operand->Value)(o:Oper)(im:Im)(loc:Loc)(aH:dp)(w:World)(r:v7):Prop:=
 ∃nx w' bK,(execOp ρ o).run P w= .ok nx w'/\((nx= .skip/\r.v= .undef)\/ ∃v,nx= .value v/\VR im bK r.v v)/\Aw im loc aH w r im bK w'
section
variable {P : Program} {im : Im} {loc : Loc} {aH : dp} {fz : J Nat} {w : World} {e : Env} {ρ : Operand -> Value}
theorem WQ.pure{o:Oper}{r:v7}{v:Value}(hk:nM im loc aH w r)(hn:r.news=[])(hw:r.wr=[])(h:(execOp ρ o).run P w= .ok (.value v) w)(hv:VR im loc r.v v):
 WQ P ρ o im loc aH w r:=⟨_,w,loc,h,.inr ⟨v,rfl,hv⟩,Aw.none hk hn hw⟩
theorem aj3{t:TypeId}(h:(P.underlying t matches aa .bool)=Pd):P.underlying t=aa .bool:=by
 grind
theorem CU{x:O jd}{o:O Operand}{n:O Nat}(vW: ∀y∈x.toList,∀o,bT y o=Pd->VR im loc (y.ev e) (ρ o))(hc:QD x o=Pd)
 (h:(match(generalizing:=false) x with|none=>some none|some a=>(nL (a.ev e)).map some)=some n):He (o.map ρ) n:=by
 cases x with
 |none=>
  cases o with
  |none=>injection h with h;subst h;trivial
  |some o=>cases hc
 |some a=>
  cases o with
  |none=>cases hc
  |some o=>simp[If]at h;obtain⟨m,hm,rfl⟩:=h;exact wq (vW a (by simp) o hc) hm
theorem AA{t el:TypeId}{aT:Nat}{a:O Addr}{len cap l h m:Nat}{vl vh vm:O Value}(hu:P.underlying t=aa (.slice el))(hs:vY P el aT=Pd)
 (hb:(Instr.sliceBounds Pd len cap vl vh vm).run P w= .ok (l,h,m) w):
 (Instr.sliceAt t (.slice a len cap) vl vh vm).run P w= .ok (.slice (if m=l then a else a.map (·.add (l*aT))) (h-l) (m-l)) w:=by
 simp[Instr.sliceAt,Md,run_underlying hu,Y,Instr.slice,hb,pq hs,YH]
theorem sol{t el:TypeId}{aT:Nat}{x z:PV}{u:Value}{lo N mx:O Nat}{vl vh vm:O Value}(X:VR im loc x u)(hu:P.underlying t=aa (.slice el))(hs:vY P el aT=Pd)
 (D:He vl lo) (S:He vh N) (h3:He vm mx) (hm:mx.isSome=Pd->N.isSome=Pd) (Mj: ∀e c r,x= .sl e c r->r=[]\/e=aT) (amR: ∀tk e o l c ex,x= .own tk e o l c ex->e=aT)
 (h:yi x lo N mx=aa z): ∃v,(Instr.sliceAt t u vl vh vm).run P w= .ok v w/\VR im loc z v:=by
 unfold yi at h;cases x with
 |sl e yg rows=>
  obtain⟨a,cap,rfl,OJ,tE,qg⟩:=X.uI;have sub: ∀(l h m:Nat) (Xd:Bool),l<=h->h<=hl rows->h<=m->m<=cap->(Xd=Pd->m=h)->
   VR im loc (.sl e Xd ((rows.drop l).take (h-l))) (.slice (if m=l then a else a.map (·.add (l*aT))) (h-l) (m-l)):=by
   intro l h m Xd hlh hhr MY Wh Ls;have fJ:((rows.drop l).take (h-l)).length=h-l:=by simp;omega
   have:=VR.sl (loc:=loc) e Xd ((rows.drop l).take (h-l)) (if m=l then a else a.map (·.add (l*aT))) (m-l) (by omega) (λhc=>by have:=Ls hc;omega) (λfk=>by
    have iY:l<h:=by
     rcases YI l h with h'|h'
     ·exact h'
     exfalso;apply fk;rw[show h-l=0 by omega];simp
    have xJ:rows≠[]:=by intro e;subst e;simp at hhr;omega
    obtain⟨b,o,rfl,dU⟩:=qg xJ;have he:=(Mj e yg rows rfl).resolve_left xJ;subst he;refine⟨b,o+l*e,?_,(dU.drop l).take _⟩;rw[EQ (by omega)];simp[yj])
   grind
  cases mx with
  |none=>
   dsimp only at h;split at h
   ·rename_i hc
    simp[PP,g']at hc;injection h with h;subst h;have hb:=sq (P:=P) (w:=w) (cap:=cap) D S h3 hm hc.1 (λ_=>by simp;omega) (by simp);simp[Tj]at hb;refine⟨_,AA hu hs hb,sub _ _ cap _ hc.1 hc.2 (by omega) (Pc _) (λLs=>?_)⟩;simp_all
   cases h
  |some m=>
   dsimp only at h;split at h
   ·rename_i hc
    simp[PP,g']at hc;injection h with h;subst h;have hb:=sq (P:=P) (w:=w) (cap:=cap) D S h3 hm hc.1.1 (λ_=>hc.1.2) (by simp;omega)
    grind[AA,vk]
   cases h
 |own tk e off len cap ex=>
  obtain⟨li,a,eL,rfl,I,he,JK,fJ,OJ,hex,Lu⟩:=X.kW;have U':=amR tk e off len cap ex rfl;subst U';have sub: ∀(l h c m m':Nat) (gh:Bool),l<=h->h<=m->m<=cap->m<=m'->m'<=eL->(gh=Pd->m'=m)->
   VR im loc (.own tk e (off+l) (h-l) (m-l) gh) (.slice (if m'=l then a else a.map (·.add (l*e))) (h-l) (m'-l)):=by
   intro l h c m m' gh hlh MY Wh hmm aBH aBI;refine .own tk e (off+l) (h-l) (m-l) gh li _ (m'-l) I he (by omega) (by omega) (by omega) (λX=>by grind) ?_
   by_cases U2:m'=l
   ·omega
   rcases Lu with h0|⟨Nl,rfl,yM⟩
   ·omega
   refine .inr ⟨Nl,?_,?_⟩
   ·simp[Option.map_some,yj];grind
   have:=KJ e (show off+l+(m'-l)<=off+eL by omega)
   omega
  cases mx with
  |none=>
   dsimp only at h;split at h
   ·rename_i hc
    simp[PP,g']at hc;injection h with h;subst h;have hb:=sq (P:=P) (w:=w) (cap:=eL) D S h3 hm hc.1 (λ_=>by simp;omega) (by simp);simp[Tj]at hb;exact⟨_,AA hu hs hb,sub _ _ 0 cap eL ex hc.1 hc.2 (Pc _) OJ (Pc _) hex⟩
   cases h
  |some m=>
   dsimp only at h;split at h
   ·rename_i hc
    simp[PP,g']at hc;injection h with h;subst h;have hb:=sq (P:=P) (w:=w) (cap:=eL) D S h3 hm hc.1.1 (λ_=>hc.1.2) (by simp;omega);simp[Y2]at hb;exact⟨_,AA hu hs hb,sub _ _ 0 m m Pd hc.1.1 hc.1.2 hc.2 (Pc _) (by omega) (λ_=>rfl)⟩
   cases h
 |_=>cases h
end
end Go.Vm
/- Two aggregates of plain cells are compared cell by cell. -/
namespace Go.Vm
theorem ael: ∀(a b c d:J PV),hl a=hl b->eu (a++c) (b++d)=match eu a b with|some Pd=>eu c d|x=>x
 | [],[],c,d,_=>by simp[eu]
 |x::xs,y::ys,c,d,h=>by
  simp[eu];cases zo x y with
  |none=>rfl
  |some r=>
   cases r with
   |false=>rfl
   |true=>exact ael xs ys c d (by simpa using h)
 | [],_::_,_,_,h=>by simp at h
 |_::_,[],_,_,h=>by simp at h
section
variable {P : Program} {im : Im} {loc : Loc} {w : World}
def whole(P:Program)(t:TypeId)(us:J Value):Value:=if kv P t then .agg ⟨us⟩else us.getD 0 Go.undef
def od(P:Program)(d:Nat)(r:O Nat)(f:Field):O Nat:=
 match r with
 |some n=>if f.offset==n&&f.name != "_" then(match flat P d f.type with
  |some m=>if vY P f.type m then aa (n+m)else Ie
  |none=>Ie)else Ie
 |none=>Ie
theorem xb{d:Nat}: ∀(fs:J Field),fs.foldl (od P d) Ie=Ie
 | []=>rfl
 |f::fs=>by exact xb fs
theorem hzE{d:Nat}{t:TypeId}{n:Nat}(h:flat P d t=aa n)(hr:kv P t=EC):n=1:=by
 cases d with
 |zero=>cases h
 |succ d=>
  simp[flat]at h;split at h
  ·grind
  ·rename_i fs hu
   unfold kv at hr;grind
  cases h
theorem Hh{d:Nat}{t:TypeId}{m k:Nat}{us:J Value}(h:flat P d t=aa m)(hs:vY P t m=Pd)(hk:k+m<=hl us)(Xe:(P.underlying t).isSome=Pd):
 (Go.part t ⟨us⟩ k).run P w= .ok (whole P t ((us.drop k).take m)) w:=by
 unfold whole;cases hr:kv P t with
 |true=>simp only[Go.part,Md,JH hr,Y,if_true,pq hs,];simp
 |false=>
  have D:=hzE h hr;simp[Go.part,JI Xe hr,];have iY:k<(hl us):=by omega
  simp_all
theorem aeu{d:Nat}{t:TypeId}{n:Nat}(h:flat P d t=aa n):(P.underlying t).isSome=Pd:=by
 cases d with
 |zero=>cases h
 |succ d=>
  simp[flat]at h
  grind
theorem Mn{d:Nat}: ∀{fs:J Field} {k n:Nat},fs.foldl (od P d) (aa k)=aa n->k<=n
 | [],k,n,h=>by simp at h;omega
 |f::fs,k,n,h=>by
  rw[Su]at h;cases hs:od P d (aa k) f with
  |none=>grind[xb]
  |some k'=>
   rw[hs]at h;have:=Mn h;unfold od at hs
   grind
theorem QL: ∀(d:Nat) (t:TypeId) (n:Nat),flat P d t=aa n-> ∀(QJ:Nat),d<=QJ-> ∀(xs ys:J PV) (us vs:J Value) (b:Bool),gW im loc xs us->gW im loc ys vs->hl xs=n->hl ys=n->
 eu xs ys=aa b->(Op.equalIn QJ t (whole P t us) (whole P t vs)).run P w= .ok b w
 |0,t,n,h,_,_,_,_,_,_,_,_,_,_,_,_=>by cases h
 |d+1,t,n,h,0,hD,_,_,_,_,_,_,_,_,_,_=>by omega
 |d+1,t,n,h,QJ+1,hD,xs,ys,us,vs,b,X,hy,hxn,hyn,he=>by
  have aeW:kv P t=EC->n=1-> ∃x y u v,xs=[x]/\ys=[y]/\us=[u]/\vs=[v]/\VR im loc x u/\VR im loc y v/\zo x y=aa b:=by
   intro hr D;subst D
   match xs,us,ys,vs,X,hy,hxn,hyn,he with
   | [x],[u],[y],[v],.cons _ _ _ _ D _,.cons _ _ _ _ S _,_,_,he=>
    refine⟨x,y,u,v,rfl,rfl,rfl,rfl,D,S,?_⟩;simp[eu]at he
    grind
  simp only[flat]at h;split at h
  ·rename_i k hu
   have hr:kv P t=EC:=by unfold kv;rw[hu]
   split at h
   ·injection h with h
    obtain⟨x,y,u,v,rfl,rfl,rfl,rfl,D,S,h3⟩:=aeW hr h.symm;simp[whole,];unfold zo at h3;split at h3
    ·split at h3
     ·rename_i hk
      have:=hZ.1 hk;subst this;injection h3 with h3;subst h3;rw[D.jT,S.jT]
      grind[run_equalIn_int]
     cases h3
    cases h3
   cases h
  ·rename_i fs hu
   have hr:kv P t=Pd:=by unfold kv;rw[hu]
   split at h
   ·cases h
   rename_i dh
   have hf:P.fieldsOf t=fs:=by simp[Program.fieldsOf,hu]
   have dh:P.stoodInHeld t=EC:=by simpa using dh
   have hxl:=X.sG;have hyl:=hy.sG;simp[whole,hr,];rw[run_equalIn_agg w QJ t _ _ (by grind) dh,hf];change (match fs.toList.foldl (od P d) (aa 0)with|some n=>if vY P t n then aa n else Ie|none=>Ie)=aa n at h;cases Uc:fs.toList.foldl (od P d) (aa 0)with
   |none=>grind
   |some n'=>
    rw[Uc]at h;dsimp only at h;split at h
    ·injection h with h
     subst h;have key: ∀(l:J Field) (k:Nat),l.foldl (od P d) (aa k)=aa n'-> ∀(b':Bool),eu (xs.drop k) (ys.drop k)=aa b'->
      (Op.eqFields QJ ⟨us⟩ ⟨vs⟩ l).run P w= .ok b' w:=by
      intro l
      induction l with
      |nil=>intro k hk b' KK;simp[]at hk;subst hk;rw[SN (by omega),SN (by omega)]at KK;simp[eu,]at KK;subst KK;simp[Op.eqFields]
      |cons f l ih=>
       intro k hk b' KK;rw[Su]at hk;cases hs:od P d (aa k) f with
       |none=>rw[hs,xb]at hk;cases hk
       |some k'=>
        rw[hs]at hk;have Q0:=Mn hk;unfold od at hs;dsimp only at hs;split at hs
        ·rename_i hc
         simp[]at hc;split at hs
         ·rename_i m hm
          split at hs
          ·rename_i yB
           injection hs with hs;subst hs;have Xe:=aeu hm;have e1:xs.drop k=(xs.drop k).take m++xs.drop (k+m):=by rw[<-h1,OH]
           have e2:ys.drop k=(ys.drop k).take m++ys.drop (k+m):=by rw[<-h1,OH]
           rw[e1,e2,ael _ _ _ _ (by simp;omega)]at KK;have fk:=hc.2;simp[Op.eqFields,Md,fk,ne_eq,not_false_eq_true,if_true,hc.1];rw[Hh hm yB (by omega) Xe];simp;rw[Hh hm yB (by omega) Xe];simp;cases hq:eu ((xs.drop k).take m) ((ys.drop k).take m)with
           |none=>rw[hq]at KK;cases KK
           |some r=>
            have Mo:=QL d f.type m hm QJ (by omega) _ _ _ _ r ((X.drop k).take m) ((hy.drop k).take m) (by simp;omega) (by simp;omega) hq;rw[Mo];simp;rw[hq]at KK;cases r with
            |false=>simp[IR]at KK;subst KK;simp
            |true=>dsimp only at KK;have:=ih (k+m) hk b' KK;simpa using this
          cases hs
         cases hs
        cases hs
     grind
    cases h
  cases h
theorem hbE{t:TypeId}{n:Nat}(h:U9 P t n=Pd)(hr:kv P t=Pd)(xs ys:J PV)(us vs:J Value)(b:Bool)(X:gW im loc xs us)(hy:gW im loc ys vs)(D:(hl xs)=n)(S:(hl ys)=n)
 (he:eu xs ys=aa b):(Op.equalIn 10000 t (.agg ⟨us⟩) (.agg ⟨vs⟩)).run P w= .ok b w:=by
 unfold U9 at h;rw[beq_iff_eq]at h;have:=QL (w:=w) 100 t n h 10000 (by omega) xs ys us vs b X hy D S he;simpa only[whole,hr,if_true]using this
end
end Go.Vm
/- Maps; copy and clear. -/
namespace Go.Vm
theorem VR.EF{im:Im}{loc:Loc}{x:PV}{v:Value}(h:valOf x=aa v):VR im loc x v:=by
 cases x with
 |agg cs=>
  simp only[valOf,If]at h;obtain⟨vs,QM,rfl⟩:=h;refine .agg cs vs ?_
  induction cs generalizing vs with
  |nil=>simp at QM;subst QM;exact .nil
  |cons c cs ih=>rw[List.mapM_cons]at QM;simp only[Option.bind_eq_bind,Option.bind_eq_some_iff,Option.pure_def,IR]at QM;obtain⟨v,hv,us,FO,rfl⟩:=QM;exact .cons _ _ _ _ (.Mf hv) (ih us FO)
 |_=>exact .Mf h
theorem aev{im:Im}{loc:Loc}{x:PV}{v:Value}(h:VR im loc x v)(hp: ∀c∈x.cells,c.plain=Pd):valOf x=aa v:=by
 cases x with
 |agg cs=>
  obtain⟨vs,rfl,hr⟩:=h.xa;simp only[valOf,If];refine⟨vs,?_,rfl⟩;simp[PV.cells]at hp;clear h
  induction cs generalizing vs with
  |nil=>cases hr;rfl
  |cons c cs ih=>
   cases hr with
   |cons _ v _ us D S=>simp[D.plain (hp c (by simp)),ih (λd hd=>hp d (by simp[hd])) us S]
 |_=>exact h.plain (hp _ (by simp[PV.cells]))
section
variable {P : Program} {im : Im} {loc : Loc} {aH : dp} {fz : J Nat} {w : World}
theorem CV: ∀{xs ys:J PV} {us vs:J Value},eu xs ys=aa Pd->gW im loc xs us->gW im loc ys vs->us=vs/\ ∀u∈us,∃k n,u= .int k n
 | [],[],_,_,_,.nil,.nil=>⟨rfl,by simp⟩
 |x::xs,y::ys,_,_,h,.cons _ u _ us D S,.cons _ v _ vs h3 h4=>by
  simp[eu]at h;split at h
  ·rename_i V8
   obtain⟨rfl,yN⟩:=CV h S h4;unfold zo at V8;split at V8
   ·rename_i k a l b
    split at V8
    ·rename_i Xk
     have:=hZ.1 Xk;subst this;have Sb:a=b:=by simpa using V8
     subst Sb;rw[D.jT,h3.jT]
     grind
    cases V8
   cases V8
  ·cases h
  cases h
 | [],_::_,_,_,h,_,_=>by simp[eu]at h
 |_::_,[],_,_,h,_,_=>by simp[eu]at h
theorem aex: ∀(us:J Value) (n:Nat),(∀u∈us,∃k m,u= .int k m)->(us.zip us).all (λ(x,y)=>Instr.sameBits n x y)=Pd
 | [],_,_=>rfl
 |u::us,n,h=>by obtain⟨k,m,rfl⟩:=h u (by simp);simp only[List.zip_cons_cons,List.all_cons,PP];exact⟨by cases n<;>simp[Instr.sameBits],aex us n λu hu=>h u (by simp[hu])⟩
theorem oL{n:O Nat}{x:PV}{u:Value}(h:oa n x=Pd)(hv:VR im loc x u):(n=Ie/\ ∃k m,x= .int k m/\u= .int k m)\/(∃m cs us,n=aa m/\x= .agg cs/\hl cs=m/\u= .agg ⟨us⟩/\gW im loc cs us):=by
 unfold oa at h;split at h
 ·exact .inl ⟨rfl,_,_,rfl,hv.jT⟩
 ·rename_i m cs
  obtain⟨us,rfl,hr⟩:=hv.xa;simp_all
 cases h
theorem aaR{n:O Nat}{x y:PV}{u v:Value}(X:oa n x=Pd)(hy:oa n y=Pd)(h:eu x.cells y.cells=aa Pd)(hu:VR im loc x u)(hv:VR im loc y v):
 u=v/\Instr.sameBits 10000 u u=Pd:=by
 rcases oL X hu with⟨rfl,k,m,rfl,rfl⟩|⟨m,cs,us,rfl,rfl,_,rfl,hr⟩
 ·rcases oL hy hv with⟨_,l,m',rfl,rfl⟩|⟨_,_,_,h',_⟩
  ·obtain⟨D,_⟩:=CV (im:=im) (loc:=loc) h (.cons _ _ _ _ (.int k m) .nil) (.cons _ _ _ _ (.int l m') .nil)
   injection D with D;exact⟨D,by simp[Instr.sameBits]⟩
  cases h'
 rcases oL hy hv with⟨h',_⟩|⟨_,ds,vs,_,rfl,_,rfl,hs⟩
 ·cases h'
 obtain⟨rfl,S⟩:=CV h hr hs
 refine⟨rfl,?_⟩;simp only[Instr.sameBits,beq_self_eq_true,];exact aex us 9999 S
theorem iX.get: ∀{es:J _} {ph:J MapEntry},iX es ph-> ∀{i:Nat} {p:PV×PV},es[i]? =aa p-> ∃e,ph[i]? =aa e/\valOf p.1=aa e.key/\valOf p.2=aa e.val
 |(k,v)::r,e::r',h,0,p,hp=>by simp at hp;subst hp;exact⟨e,rfl,h.1,h.2.1⟩
 |(k,v)::r,e::r',h,i+1,p,hp=>by
  obtain⟨e',D,S⟩:=iX.get h.2.2 (by simpa using hp)
  grind
 | [],[],h,i,p,hp=>by simp at hp
 | [],_::_,h,_,_,_=>by grind
 |_::_,[],h,_,_,_=>by simp[iX]at h
theorem aey{q:IntKind}{k:PV}{u:Value}(hu:VR im loc k u)(hk:oa Ie k=Pd): ∀{es:J _} {ph:J MapEntry} {i:Nat} {r:O Nat},iX es ph->iI Ie k es i=aa r->
 ∃r',Instr.findNow (.int q) u ph i=aa r'/\match r with|none=>r'=Ie|some j=>i<=j/\ ∃p e,es[j-i]? =aa p/\ph[j-i]? =aa e/\r'=aa (j,e.val)/\oa Ie p.1=Pd/\eu k.cells p.1.cells=aa Pd
 | [],[],i,r,_,h=>by simp[iI,]at h;subst h;exact⟨Ie,rfl,rfl⟩
 |(a,v)::es,e::ph,i,r,hm,h=>by
  simp only[iI]at h;split at h
  case isFalse=>cases h
  rename_i A7;obtain⟨D,S,h3⟩:=hm;obtain⟨_,kk,kn,rfl,rfl⟩:_/\ ∃kk kn,k= .int kk kn/\u= .int kk kn:=by
   rcases oL hk hu with⟨_,kk,kn,e1,e2⟩|⟨_,_,_,e1,_⟩
   ·exact⟨trivial,kk,kn,e1,e2⟩
   cases e1
  obtain⟨ak,an,rfl,hae⟩: ∃ak an,a= .int ak an/\e.key= .int ak an:=by
   rcases oL (im:=im) (loc:=loc) A7 (VR.EF D)with⟨_,kk,kn,e1,e2⟩|⟨_,_,_,e1,_⟩
   ·grind
   cases e1
  simp[PV.cells,eu,zo]at h;cases CK:iA kk ak with
  |false=>grind
  |true=>
   have:=hZ.1 CK;subst this;rw[CK]at h;simp only[Instr.findNow,hae,Instr.sameNow,];cases hb:(kn==an)with
   |true=>rw[hb]at h;simp[]at h;subst h;refine⟨_,rfl,Pc _,(.int kk an,v),e,by simp,by simp,rfl,A7,?_⟩;simp[PV.cells,eu,zo,CK,hb]
   |false=>
    rw[hb]at h;obtain⟨r',g1,g2⟩:=aey (q:=q) (.int kk kn) hk h3 h
    grind
 | [],_::_,i,r,hm,h=>by simp[iX]at hm
 |_::_,[],i,r,hm,h=>by simp[iX]at hm
theorem aeA{n:Nat}{kt:TypeId}(Ef:kv P kt=Pd)(S0:flat P 100 kt=aa n){k:PV}{u:Value}(hu:VR im loc k u)(hk:oa (aa n) k=Pd): ∀{es:J _} {ph:J MapEntry} {i:Nat} {r:O Nat},iX es ph->iI (aa n) k es i=aa r->
 ∃r',(Instr.findAsking kt u ph i).run P w= .ok r' w/\match r with|none=>r'=Ie|some j=>i<=j/\ ∃p e,es[j-i]? =aa p/\ph[j-i]? =aa e/\r'=aa (j,e.val)/\oa (aa n) p.1=Pd/\eu k.cells p.1.cells=aa Pd
 | [],[],i,r,_,h=>by simp[iI,]at h;subst h;exact⟨Ie,rfl,rfl⟩
 |(a,v)::es,e::ph,i,r,hm,h=>by
  simp only[iI]at h;split at h
  case isFalse=>cases h
  rename_i A7;obtain⟨D,S,h3⟩:=hm;have hva:VR im loc a e.key:=VR.EF D;have heq: ∀b,eu k.cells a.cells=aa b->(Op.equal kt u e.key).run P w= .ok b w:=by
   intro b hb;rcases oL hk hu with⟨h',_⟩|⟨m,cs,us,h',rfl,I,rfl,hr⟩
   ·cases h'
   injection h' with h';subst h'
   rcases oL A7 hva with⟨h',_⟩|⟨m,ds,vs,h',rfl,sH,he,hs⟩
   ·cases h'
   injection h' with h';subst h'
   rw[he];have:=QL (w:=w) 100 kt n S0 Op.maxDepth (by decide) cs ds us vs b hr hs I sH hb;simp[whole,Ef,]at this;exact this
  cases hb:eu k.cells a.cells with
  |none=>grind
  |some b=>
   rw[hb]at h;have dG:=heq b hb;cases b with
   |true=>simp[]at h;subst h;refine⟨aa _,by simp[Instr.findAsking,dG],Pc _,(a,v),e,by simp,by simp,rfl,A7,hb⟩
   |false=>
    obtain⟨r',g1,g2⟩:=aeA Ef S0 hu hk h3 h;refine⟨r',by simp[Instr.findAsking,dG,g1],?_⟩
    grind
 | [],_::_,i,r,hm,h=>by simp[iX]at hm
 |_::_,[],i,r,hm,h=>by simp[iX]at hm
theorem aeD: ∀(d:Nat) (t:TypeId) (n:Nat),flat P d t=aa n-> ∀(QJ:Nat),d<=QJ-> ∀(em:Bool) (xs:J PV) (us:J Value),gW im loc xs us->hl us=n->
 (Instr.checkKey em QJ t (whole P t us)).run P w= .ok () w
 |0,t,n,h,_,_,_,_,_,_,_=>by cases h
 |d+1,t,n,h,0,hD,_,_,_,_,_=>by omega
 |d+1,t,n,h,QJ+1,hD,em,xs,us,X,hun=>by
  simp only[flat]at h;split at h
  ·rename_i k hu
   have hr:kv P t=EC:=by unfold kv;rw[hu]
   split at h
   ·injection h with h;subst h
    match us,xs,X,hun with
    | [u],[x],.cons _ _ _ _ D _,_=>simp only[Instr.checkKey,Md,run_underlying hu,Y];cases u<;>simp
   cases h
  ·rename_i fs hu
   have hr:kv P t=Pd:=by unfold kv;rw[hu]
   split at h
   ·cases h
   change (match fs.toList.foldl (od P d) _ with|some n=>if vY P t n then aa n else Ie|none=>Ie)=aa n at h
   cases Uc:fs.toList.foldl (od P d) (aa 0)with
   |none=>grind
   |some n'=>
    rw[Uc]at h;dsimp only at h;split at h
    ·injection h with h;simp[whole,hr,Instr.checkKey,run_underlying hu,]
     rw[<-Array.forIn_toList];have hk: ∃k,fs.toList.foldl _ _=aa n':=⟨0,Uc⟩;obtain⟨k,hk⟩:=hk;generalize fs.toList=L at hk
     induction L generalizing k with
     |nil=>simp
     |cons f l ih=>
      rw[Su]at hk;cases hs:od P d (aa k) f with
      |none=>grind[xb]
      |some k'=>
       rw[hs]at hk;have Q0:=Mn hk;unfold od at hs;dsimp only at hs;split at hs
       ·rename_i hc
        simp[]at hc;split at hs
        ·rename_i m hm
         split at hs
         ·rename_i yB
          injection hs with hs;have p1:=Hh (w:=w) (us:=us) hm yB (k:=k) (by omega) (aeu hm);have p2:=aeD d f.type m hm QJ (by omega) em _ _ ((X.drop k).take m) (by simp;omega);simp[hc.1,p1,p2,];exact ih _ hk
         cases hs
        cases hs
       cases hs
    cases h
  cases h
theorem hzb{kt:TypeId}{q:IntKind}(hq:P.underlying kt=aa (.int q))(em:Bool)(n:Nat)(k:IntKind)(m:Int):(Instr.checkKey em (n+1) kt (.int k m)).run P w= .ok () w:=by simp[Instr.checkKey,run_underlying hq]
theorem CW{r:Nat}{es:Array MapEntry}{clock:Nat}(hb:w.heap[r]? =aa (.map es clock)):(getObj r).run P w= .ok (.map es clock) w:=by simp[getObj,Sem.run,hb]
theorem aeI{r:Nat}{es:Array MapEntry}{clock:Nat}(o:Obj)(hb:w.heap[r]? =aa (.map es clock)):(setObj r o).run P w= .ok () {w with heap:=w.heap.setIfInBounds r o}:=by simp[setObj,Sem.run,hb]
theorem hrz{kt:TypeId}{d:TypeDesc}{k:Value}{l:J MapEntry}{a:O _}(hd:P.underlying kt=aa d)(h:Instr.findNow d k l 0=aa a):(Instr.findKey kt k l).run P w= .ok a w:=by simp[Instr.findKey,run_underlying hd,h]
theorem aeN{kt:TypeId}{n:O Nat}(h:Ew P kt n=Pd){k:PV}{u:Value}(hu:VR im loc k u)(hk:oa n k=Pd)(em:Bool):(Instr.checkKey em 10000 kt u).run P w= .ok () w:=by
 rcases oL hk hu with⟨rfl,kk,m,rfl,rfl⟩|⟨m,cs,us,rfl,rfl,I,rfl,hr⟩
 ·simp[Ew]at h
  grind[hzb]
 simp[Ew,]at h
 have:=aeD (w:=w) 100 kt m h.2 10000 (by decide) em cs us hr (by rw[<-hr.sG];exact I);simp[whole,h.1,]at this;exact this
theorem aeU{kt:TypeId}{n:O Nat}(h:Ew P kt n=Pd){k:PV}{u:Value}(hu:VR im loc k u)(hk:oa n k=Pd){es:J _}{ph:J MapEntry}{r:O Nat}(hm:iX es ph)(hf:iI n k es 0=aa r):
 ∃r',(Instr.findKey kt u ph).run P w= .ok r' w/\match r with|none=>r'=Ie|some j=> ∃p e,es[j]? =aa p/\ph[j]? =aa e/\r'=aa (j,e.val)/\oa n p.1=Pd/\eu k.cells p.1.cells=aa Pd:=by
 cases n with
 |none=>
  simp[Ew]at h;split at h
  ·rename_i q hq
   obtain⟨r',D,S⟩:=aey hu hk hm hf;refine⟨r',hrz hq D,?_⟩
   grind
  cases h
 |some m=>
  simp[Ew,]at h;obtain⟨r',D,S⟩:=aeA h.1 h.2 hu hk hm hf;refine⟨r',?_,?_⟩
  ·rw[run_findKey_eq w ?_ u ph]
   ·exact D
   have:=h.1
   unfold kv at this
   revert this
   cases P.underlying kt with
   |none=>exact id
   |some d=>cases d<;>exact id
  grind
theorem VR.aaS{t:Nat}{v:Value}(h:VR im loc (.mp t) v): ∃li,loc t=aa li/\v= .map (aa li.eK):=by cases h with|mp _ li h=>grind
theorem hGn{t kt et:TypeId}{n:O Nat}{zero m k:PV}{ok:Bool}{um uk:Value}{r:v7}(ht:P.underlying t=aa (.map kt et))(k6:Ew P kt n=Pd)
 (hz: ∃i z,P.info? et=aa i/\i.zero=aa z/\VR im loc zero z) (hm:VR im loc m um) (hk:VR im loc k uk)
 (h:Ar aH n zero ok m k=aa r) (Wi:nM im loc aH w r):
 ∃v,(Instr.lookup t um uk ok).run P w= .ok v w/\VR im loc r.v v/\r.news=[]/\r.wr=[]:=by
 unfold Ar at h;cases m with
 |mp tk=>
  dsimp only at h;obtain⟨li,I,rfl⟩:=hm.aaS;cases hs:aH[tk]? with
  |none=>grind
  |some b=>
   rw[hs]at h;cases b with
   |map es=>
    dsimp only at h;split at h
    case isFalse=>cases h
    rename_i YK;cases hf:iI n k es 0 with
    |none=>grind
    |some q=>
     rw[hf]at h;have Xi:tk∈r.rd:=by
      grind
     obtain⟨b',Sc,Az⟩:=Wi.tok tk (.inl Xi) li I;rw[hs]at Sc;injection Sc with Sc;subst Sc;obtain⟨ph,clock,hw,hrel⟩:=Az;obtain⟨r',Bm,Sd⟩:=aeU (w:=w) k6 hk YK hrel hf;have tE:=aeN (w:=w) k6 hk YK (ph.isEmpty);obtain⟨i,z,N,hiz,hvz⟩:=hz;have Xb:(zeroValue et).run P w= .ok z w:=by simp[zeroValue,typeInfo,N,hiz]
     cases q with
     |none=>
      subst Sd;injection h with h;subst h;refine⟨if ok then .tuple #[z,.bool EC]else z,?_,?_,rfl,rfl⟩
      ·simp[Instr.lookup,run_underlying ht,CW hw,tE,Bm,Xb]
      cases ok with
      |true=>exact .cT _ _ (.cons _ _ _ _ hvz (.cons _ _ _ _ (.bool EC) .nil))
      |false=>exact hvz
     |some j=>
      dsimp only at h Sd;obtain⟨p,e,D,S,rfl,h4,h5⟩:=Sd;rw[D]at h;simp[]at h;subst h;obtain⟨e',Sa,Xf,wy⟩:=iX.get hrel D;rw[S]at Sa;injection Sa with Sa;subst Sa;refine⟨if ok then .tuple #[e.val,.bool Pd]else e.val,?_,?_,rfl,rfl⟩
      ·simp[Instr.lookup,run_underlying ht,CW hw,tE,Bm]
      cases ok with
      |true=>exact .cT _ _ (.cons _ _ _ _ (.EF wy) (.cons _ _ _ _ (.bool Pd) .nil))
      |false=>exact .EF wy
   |_=>cases h
 |_=>cases h
theorem iX.snoc: ∀{es:J _} {ph:J MapEntry} {p:PV×PV} {e:MapEntry},iX es ph->valOf p.1=aa e.key->valOf p.2=aa e.val->iX (es++[p]) (ph++[e])
 | [],[],p,e,_,D,S=>⟨D,S,trivial⟩
 |(k,v)::r,e::r',p,e',h,D,S=>⟨h.1,h.2.1,iX.snoc h.2.2 D S⟩
 | [],_::_,_,_,h,_,_=>by simp[iX]at h
 |_::_,[],_,_,h,_,_=>by simp[iX]at h
theorem iX.set: ∀{es:J _} {ph:J MapEntry} {i:Nat} {p:PV×PV} {f:MapEntry->MapEntry},iX es ph->(∀e,valOf p.1=aa (f e).key/\valOf p.2=aa (f e).val)->iX (es.set i p) (ph.modify i f)
 | [],[],i,p,f,h,_=>by simp[iX]
 |(k,v)::r,e::r',0,p,f,h,D=>⟨(D e).1,(D e).2,h.2.2⟩
 |(k,v)::r,e::r',i+1,p,f,h,D=>by simp;exact⟨h.1,h.2.1,iX.set h.2.2 D⟩
 | [],_::_,_,_,_,h,_=>by simp[iX]at h
 |_::_,[],_,_,_,h,_=>by simp[iX]at h
theorem aeV{t kt et:TypeId}{n:O Nat}{m k x:PV}{um uk ux:Value}{r:v7}(ht:P.underlying t=aa (.map kt et))(k6:Ew P kt n=Pd)
 (hm:VR im loc m um) (hk:VR im loc k uk) (X:VR im loc x ux)
 (h:KI aH fz n m k x=aa r) (Wi:nM im loc aH w r):
 ∃w',(Instr.mapUpdate t um uk ux).run P w= .ok () w'/\Aw im loc aH w r im loc w'/\r.v= .undef:=by
 unfold KI at h;cases m with
 |mp tk=>
  dsimp only at h;obtain⟨li,I,rfl⟩:=hm.aaS;cases hs:aH[tk]? with
  |none=>grind
  |some b=>
   rw[hs]at h;cases b with
   |map es=>
    dsimp only at h;split at h
    case isFalse=>cases h
    rename_i YK;simp[]at YK;obtain⟨YK,hnf⟩:=YK;cases hkp:k.di with
    |none=>grind
    |some kc=>
     cases hxp:x.di with
     |none=>grind
     |some r10=>
      rw[hkp,hxp]at h;obtain⟨_,ar'⟩:=ss hkp;obtain⟨_,asa⟩:=ss hxp;have ae5:=aev hk ar';have aeJ:=aev X asa;cases hf:iI n k es 0 with
      |none=>grind
      |some q=>
       rw[hf]at h;have K': ∃bb,r={v:= .undef,wr:=[(tk,bb)]}:=by
        grind
       obtain⟨bb,hr⟩:=K';obtain⟨b',Sc,Az⟩:=Wi.tok tk (.inr ⟨bb,by rw[hr];simp⟩) li I;rw[hs]at Sc;injection Sc with Sc;subst Sc;obtain⟨ph,clock,hw,hrel⟩:=Az;obtain⟨r',Bm,Sd⟩:=aeU (w:=w) k6 hk YK hrel hf;have tE:=aeN (w:=w) k6 hk YK EC;have iY:=(SH.1 hw).1;cases q with
       |none=>
        subst Sd;injection h with h;refine⟨{w with heap:=w.heap.setIfInBounds li.eK (.map (ph.push {key:=uk,val:=ux,born:=clock}) (clock+1))},?_,Aw.write Wi (by rw[<-h]) (by rw[<-h]) I hs rfl rfl rfl rfl rfl ?_,by rw[<-h]⟩
        ·simp[Instr.mapUpdate,run_underlying ht,CW hw,tE,Bm]
         exact aeI _ hw
        refine⟨ph.push {key:=uk,val:=ux,born:=clock},clock+1,by simp[iY],?_⟩
        rw[Array.toList_push];exact hrel.snoc ae5 aeJ
       |some j=>
        obtain⟨p,e,D,S,rfl,h4,h5⟩:=Sd;injection h with h;obtain⟨e',Sa,Xf,wy⟩:=iX.get hrel D;obtain⟨ahG,amU⟩:=aaR YK h4 h5 hk (.EF Xf);have amV:((ph[j]?).map (·.key)).getD uk=uk:=by
         grind
        refine⟨{w with heap:=w.heap.setIfInBounds li.eK (.map (ph.modify j λe=>{e with key:=uk,val:=ux}) clock)},?_,Aw.write Wi (by rw[<-h]) (by rw[<-h]) I hs rfl rfl rfl rfl rfl ?_,by rw[<-h]⟩
        ·simp[Instr.mapUpdate,run_underlying ht,CW hw,tE,Bm,amV,Instr.keyThatStays,amU,]
         exact aeI _ hw
        refine⟨ph.modify j λe=>{e with key:=uk,val:=ux},clock,by simp[iY],?_⟩
        rw[Array.toList_modify];exact hrel.set λe=>⟨ae5,aeJ⟩
   |_=>cases h
 |_=>cases h
theorem hRl{aT:Nat}{y:PV}{u:Value}{new:J Row}(hy:VR im loc y u)(hr:rowsOf aH aT y=aa new)(n:Nat)(hn:n<=hl new)
 (bZ: ∀b o,im b=aa o->w.heap[b]? =aa o) (tok: ∀t,t∈nK y-> ∀li,loc t=aa li-> ∃k,aH[t]? =aa k/\BR im loc w li k):
 (Builtin.lenOf u).run P w= .ok (hl new) w/\(Builtin.firstCells aT n u).run P w= .ok ((new.take n).flatMap bw).toArray w/\(∀r∈new,hl r=aT)/\(∀r∈new,∀c∈r,c.plain=Pd):=by
 have aAd: ∀(a:O Addr) (l c:Nat),(Builtin.firstCells aT 0 (.slice a l c)).run P w= .ok #[] w:=by
  intro a l c;cases a with
  |none=>rfl
  |some a=>have:=run_loadCells_list (P:=P) w a [] (by simp);simpa[Builtin.firstCells]using this
 have get: ∀(rows:J Row) (b o l c:Nat) (g:Nat->O Value),cw g o aT rows->(∀k v,g k=aa v->w.cell? ⟨b,k,Ie⟩=aa v)->n<=hl rows->
  (Builtin.firstCells aT n (.slice (aa ⟨b,o,Ie⟩) l c)).run P w= .ok ((rows.take n).flatMap bw).toArray w:=by
  intro rows b o l c g dU hg QH;have D:=dU.take n;have S0:=eS D.uK;have:=run_loadCells_list (P:=P) w ⟨b,o,Ie⟩ _ (λj v hj=>by rw[yj];exact hg _ _ (D.flat j v hj));simp[Builtin.firstCells]
  grind
 unfold rowsOf at hr;cases y with
 |sl e yg rows=>
  obtain⟨a,cap,rfl,_,_,qg⟩:=hy.uI;cases rows with
  |nil=>simp at hr;subst hr;exact⟨rfl,by grind,by simp,by simp⟩
  |cons r rs=>
   dsimp only at hr;split at hr
   ·rename_i he
    have he:e=aT:=by simpa using he
    subst he;injection hr with hr;subst hr;obtain⟨b,o,rfl,dU⟩:=qg (by simp);exact⟨rfl,get _ b o _ cap _ dU (λk v hk=>xI bZ hk) hn,dU.uK,dU.plain⟩
   cases hr
 |own t e off len cap ex=>
  dsimp only at hr;split at hr
  ·rename_i he
   have he:e=aT:=by simpa using he
   subst he;obtain⟨li,a,eL,rfl,I,S,h3,h4,h5,h6,h7⟩:=hy.kW;obtain⟨k,lL,hb⟩:=tok t (by simp[nK]) li I;rw[lL]at hr;cases k with
   |arr e' rows=>
    simp[]at hr;subst hr;obtain⟨b1,b2,b3⟩:=hb;have fJ:((rows.drop off).take len).length=len:=by simp;omega
    have U':e'=e:=by rw[<-b1,S]
    subst U';rw[fJ]at hn ⊢;cases rows with
    |nil=>
     have:len=0:=by grind
     exact⟨rfl,by grind,by simp,by simp⟩
    |cons r rs=>
     obtain⟨arr,el,GB,UY,Sz,dU⟩:=b3 (by simp);have Eg:=(dU.drop off).take len;refine⟨rfl,?_,Eg.uK,Eg.plain⟩
     grind[h2,pI]
   |_=>cases hr
  cases hr
 |_=>cases hr
theorem aeZ{aT:Nat}{t off len cap:Nat}{ex:Bool}{u:Value}{rows new:J Row}{r:v7}{d:J Nat}{v:PV}(X:VR im loc (.own t aT off len cap ex) u)(hs:aH[t]? =aa (.arr aT rows))(hn:new≠[])(I:(hl new)<=len)
 (Xh: ∀r∈new,hl r=aT) (Tp: ∀r∈new,∀c∈r,c.plain=Pd) (hr:r={v:=v,wr:=[(t,.arr aT (pX off new rows))],rd:=d}) (hk:nM im loc aH w r):
 ∃b o c w',u= .slice (aa ⟨b,o,Ie⟩) len c/\(storeCells ⟨b,o,Ie⟩ (new.flatMap bw)).run P w= .ok () w'/\Aw im loc aH w r im loc w':=by
 obtain⟨li,a,eL,rfl,sH,he,JK,OJ,hex,hxk,Lu⟩:=X.kW;obtain⟨k,lL,hb⟩:=hk.tok t (.inr ⟨_,by rw[hr];simp;rfl⟩) li sH;rw[hs]at lL;injection lL with lL;subst lL;obtain⟨b1,b2,b3⟩:=hb;have QH:=List.length_pos_iff.2 hn;have xJ:rows≠[]:=by grind
 obtain⟨arr,el,GB,UY,Sz,dU⟩:=b3 xJ;rcases Lu with h0|⟨_,rfl,yM⟩
 ·omega
 have SF:=eS Xh
 have OK:=KJ aT (show off+hl new<=(hl rows) by omega);rw[Xc]at OK;have QI:li.sh+off*aT+(new.flatMap bw).length<=arr.size:=by rw[SF];omega
 have dG:=run_storeCells_at P li.eK _ el _ 0 arr w GB (by simpa using QI) (uL Tp);refine⟨li.eK,li.sh+off*aT,eL,_,rfl,dG,?_⟩;refine Aw.write hk (by rw[hr]) (by rw[hr]) sH hs (by cases rows with|nil=>grind|cons _ _=>rfl) (cI GB) rfl rfl rfl ?_;rw[EB _ _ _ (by omega)];refine⟨b1,by grind[dV],λ_=>⟨(arr.toList.take (li.sh+off*aT+0)++new.flatMap bw++arr.toList.drop (li.sh+off*aT+0+(new.flatMap bw).length)).toArray,el,?_,?_,?_,?_⟩⟩
 ·grind[cI]
 ·grind
 ·grind[dV]
 refine dU.uA (by omega) Xh Tp (λk=>?_)
 have:=kX _ (new.flatMap bw) arr.toList (by simpa using QI) k;simp only[uA]at this
 grind
end
end Go.Vm
/- Operation by operation: the theorem. -/
namespace Go.Vm
section
variable {P : Program} {im : Im} {loc : Loc} {aH : dp} {fz : J Nat} {w : World} {e : Env} {ρ : Operand -> Value}
theorem aaT{aT:Nat}{x:PV}(h:BT aT x=Pd):(∀e c r,x= .sl e c r->r=[]\/e=aT)/\(∀tk e o l c ex,x= .own tk e o l c ex->e=aT):=by
 constructor
 ·rintro e c r rfl
  simp[BT,]at h;exact h.symm
 rintro tk e o l c ex rfl
 simpa[BT]using h
theorem mG{x:Sem Value}{v:Value}(h:x.run P w= .ok v w):(do pure (Next.value (<-x)):Sem Next).run P w= .ok (.value v) w:=by simp_all
theorem afq{x y:jd}{l:J Operand}(h:gY [x,y] l=Pd): ∃a b,l=[a,b]/\bT x a=Pd/\bT y b=Pd:=by
 match l,h with
 | [],h=>simp[gY]at h
 | [_],h=>simp[gY]at h
 | [a,b],h=>simp[gY,]at h;grind
 |_::_::_::_,h=>simp[gY]at h
theorem aap{x:jd}{l:J Operand}(h:gY [x] l=Pd): ∃a,l=[a]/\bT x a=Pd:=by
 match l,h with
 | [],h=>simp[gY]at h
 | [a],h=>simp[gY,]at h;grind
 |_::_::_,h=>simp[gY]at h
theorem aaU{prims:FuncId->Bool}{x:qd}{o:Oper}{r:v7}(hc:D6 P prims o.type x o.op=Pd)(vW: ∀y∈x.iV,∀o',bT y o'=Pd->VR im loc (y.ev e) (ρ o'))
 (h:cd e aH fz x=aa r) (hk:nM im loc aH w r):WQ P ρ o im loc aH w r:=by
 unfold D6 at hc;split at hc
 case h_1 x o' je=>injection h with h;subst h;exact .pure hk rfl rfl (by simp[execOp,je]) (vW x (by simp[qd.iV]) o' hc)
 case h_2 x o' je=>injection h with h;subst h;exact .pure hk rfl rfl (by simp[execOp,je]) (vW x (by simp[qd.iV]) o' hc)
 case h_3 c a b d e' f je=>
  simp[]at hc;have D:=vW c (by simp[qd.iV]) d hc.1.1;simp[cd]at h;split at h
  ·rename_i hb;rw[hb]at D;have D:=D.oc
   injection h with h;subst h;exact .pure hk rfl rfl (by simp[execOp,je,D,asBool]) (vW a (by simp[qd.iV]) _ hc.1.2)
  ·rename_i hb;rw[hb]at D;have D:=D.oc
   injection h with h;subst h;exact .pure hk rfl rfl (by simp[execOp,je,D,asBool]) (vW b (by simp[qd.iV]) _ hc.2)
  cases h
 case h_4 op x y bh t a b u je=>simp[]at hc;obtain⟨⟨rfl,D⟩,S⟩:=hc;simp[cd,]at h;obtain⟨z,hz,rfl⟩:=h;obtain⟨v,dG,hv⟩:=aeS (vW x (by simp[qd.iV]) a D) (vW y (by simp[qd.iV]) b S) hz;exact .pure hk rfl rfl (by simp only[execOp,je];exact mG dG) hv
 case h_5 neg x y op t a b u je=>
  simp[]at hc;obtain⟨⟨⟨h0,ht⟩,D⟩,S⟩:=hc;have X:=vW x (by simp[qd.iV]) a D;have hy:=vW y (by simp[qd.iV]) b S;simp[cd]at h;split at h
  ·rename_i p q hp hq
   rw[hp]at X;rw[hq]at hy;injection h with h;subst h;have ho:op=if neg then .neq else .eql:=by grind
   refine .pure hk rfl rfl ?_ (.bool _);simp only[execOp,je,X.oc,hy.oc];exact mG (aaF ho (aj3 ht))
  cases h
 case h_6 n neg x y op t a b u je=>
  simp[]at hc;obtain⟨⟨⟨⟨⟨h0,hr⟩,hn⟩,hg⟩,D⟩,S⟩:=hc;have X:=vW x (by simp[qd.iV]) a D;have hy:=vW y (by simp[qd.iV]) b S;simp only[cd]at h;split at h
  ·rename_i p q hp hq
   rw[hp]at X;rw[hq]at hy;obtain⟨us,hu1,Ud⟩:=X.xa;obtain⟨vs,Xf,wy⟩:=hy.xa;split at h
   case isFalse=>cases h
   rename_i fJ;simp[]at fJ;rw[If]at h;obtain⟨c,W8,rfl⟩:=h;have hq2:=hbE (w:=w) hn hr p q us vs c Ud wy fJ.1 fJ.2 W8;refine .pure hk rfl rfl ?_ (.bool _);simp only[execOp,je,hu1,Xf];simp[run_eqGuard_agg w op t a b ⟨us⟩ ⟨vs⟩ hg,];cases neg with
   |true=>simp_all[run_neq_struct]
   |false=>simp_all[run_eql_struct]
  cases h
 case h_7 op x bh t a je=>simp[]at hc;obtain⟨rfl,D⟩:=hc;simp[cd,]at h;obtain⟨z,hz,rfl⟩:=h;obtain⟨v,dG,hv⟩:=aiX (vW x (by simp[qd.iV]) a D) hz;exact .pure hk rfl rfl (by simp only[execOp,je];exact mG dG) hv
 case h_8 k x s d a je=>
  simp[]at hc;obtain⟨⟨hs,hd⟩,D⟩:=hc;have X:=vW x (by simp[qd.iV]) a D;obtain⟨ds,GM⟩:=GH.1 hs;simp[cd]at h;split at h
  ·rename_i k' n hp
   rw[hp]at X;injection h with h;subst h;split at hd
   ·rename_i l I
    have:=hZ.1 hd;subst this;refine .pure hk rfl rfl ?_ (.int _ _);simp only[execOp,je,X.jT];exact mG (aaG GM I)
   cases hd
  cases h
 case h_9 x args argTypes je=>
  simp[]at hc;obtain⟨ht,D⟩:=hc;obtain⟨a,ha,PI⟩:=aap D;have tB:args= #[a]:=QK (by simpa using ha);subst tB;have X:=vW x (by simp[qd.iV]) a PI;split at ht
  ·rename_i t sk
   unfold zt at ht;split at ht
   ·rename_i el hu
    have dG: ∀{v:Value},(Builtin.len_ argTypes o.type #[ρ a]).run P w= .ok v w->(execOp ρ o).run P w= .ok (.value v) w:=by intro v hv;simp[execOp,resolve,invoke,builtin];simp_all
    simp[cd]at h;split at h
    ·rename_i e' c rows hp
     rw[hp]at X;obtain⟨ad,cap,hv,_⟩:=X.uI;injection h with h;subst h;exact .pure hk rfl rfl (dG (by simp[Builtin.len_,sk,run_underlying hu,hv,goInt])) (.int _ _)
    ·rename_i tk e' off len cap ex hp
     rw[hp]at X;obtain⟨li,ad,eL,hv,_⟩:=X.kW;injection h with h;subst h;exact .pure hk rfl rfl (dG (by simp[Builtin.len_,sk,run_underlying hu,hv,goInt])) (.int _ _)
    cases h
   cases ht
  cases ht
 case h_10 n args argTypes je=>
  simp[]at hc;obtain⟨h0,ht⟩:=hc;have fk:args.size≠0:=by grind
  have ha0:(Sy ρ args)[0]? =aa (ρ args[0]):=by grind
  simp[cd,]at h;subst h;have dG: ∀{v:Value},(Builtin.len_ argTypes o.type (Sy ρ args)).run P w= .ok v w->(execOp ρ o).run P w= .ok (.value v) w:=by intro v hv;simp[execOp,je,resolve,invoke,builtin,hv]
  refine .pure hk rfl rfl (dG ?_) (.int _ _);split at ht
  ·rename_i t sk
   split at ht
   ·rename_i m el hu
    have hm:m=n:=by simpa using ht
    subst hm;simp only[Builtin.len_,sk,ha0,Md,run_underlying hu,];rfl
   ·rename_i el hu
    split at ht
    ·rename_i m el2 Ud
     have hm:m=n:=by simpa using ht
     subst hm;simp[Builtin.len_,ha0,Md,run_underlying hu,Y,goInt];simp_all[run_underlying]
    cases ht
   cases ht
  cases ht
 case h_11 x el a je=>
  have X:=vW x (by simp[qd.iV]) a hc;simp[cd]at h;cases dh:(x.ev e).stored with
  |none=>grind
  |some cs=>rw[dh]at h;injection h with h;obtain⟨rfl,JL⟩:=Hf dh;obtain⟨bK,hv,he⟩:=aaC (el:=el) (X.cells JL) h.symm hk;refine⟨_,_,bK,?_,.inr ⟨_,rfl,hv⟩,he⟩;simp[execOp,je,Instr.box,newVar,newRow]
 case h_12 cells t je=>
  simp[cd,]at h;unfold Bl at hc;cases N:P.info? t with
  |none=>grind
  |some i=>
   rw[N]at hc;cases hz:i.zero with
   |none=>simp[hz]at hc
   |some z=>simp[hz]at hc;obtain⟨bK,hv,he⟩:=aaC (el:=t) (Ex hc) h.symm hk;refine⟨_,_,bK,?_,.inr ⟨_,rfl,hv⟩,he⟩;simp[execOp,je,Instr.alloc,newVar,newRow,zeroValue,typeInfo,N,hz]
 case h_13 zero parts t ps je=>simp[]at hc;obtain⟨⟨⟨hz,_⟩,hp⟩,vV⟩:=hc;simp[cd,]at h;obtain⟨cs,yL,rfl⟩:=h;have hrel:=adb (λy hy=>vW y (by assumption)) hp;obtain⟨v,dG,hv⟩:=sll (qs:=ps.map λ(i,x)=>(i,ρ x)) hz vV (by simpa using hrel) yL;exact .pure hk rfl rfl (by simp only[execOp,je];exact mG dG) hv
 case h_14 aT n zero parts t m ps je=>
  simp only[PP,beq_iff_eq]at hc;obtain⟨⟨⟨⟨rfl,vV⟩,rJ⟩,Va⟩,hp⟩:=hc;split at vV
  ·rename_i el hu
   simp[]at vV;obtain⟨⟨⟨hs,hz⟩,fi⟩,Ld⟩:=vV;simp[cd,]at h;obtain⟨rows,qg,h⟩:=h;obtain⟨i,z,N,Ve,fJ,SQ⟩:=Mm hz Va;have Mj:z.cells.size=aT:=by omega
   have dU:=JP SQ fJ n;rw[Mj]at dU
   obtain⟨U1,D,S,h3,h4⟩:=acl (n:=n) (ado (λy hy=>vW y (by assumption)) hp) dU (by simp) (by simp) qg;obtain⟨bK,hv,he⟩:=ae2 (el:=el) h.symm hk S h3 h4 rfl (Pc _);refine⟨_,_,bK,?_,.inr ⟨_,rfl,hv⟩,he⟩;have Xb:(zeroValue el).run P w= .ok z w:=by simp[zeroValue,typeInfo,N,Ve]
   have rJ:n*aT<=1048576:=by simpa using rJ
   have asb: ¬(n*aT>2^24):=by omega
   simp only[execOp,je,Instr.buildSlice,Md,run_underlying hu,Y,pq hs,asb,if_false]
   by_cases h0:n*aT=0
   ·have Nl:n=0:=by
     rcases Pv.1 h0 with h|h
     ·exact h
     grind
    subst Nl;simp[]at D;simp only[Nat.zero_mul,if_true,Md,YH,Y,Zg];have e0:(Sy (λx=>(#[]:Array Value)[x%(#[]:Array Value).size]!) (KO 0))=(Sy (λx=>z.cells[x%aT]!) (KO 0)):=by simp
    rw[e0,D];simp[newRow]
   simp[h0,if_false,Md,Xb,Y,YH]
   simp[Mj,Zg,D];simp[newRow]
  cases vV
 case h_15 agg p t a je=>simp[]at hc;have X:=vW p (by simp[qd.iV]) a hc.2;obtain⟨v,dG,hv,hn,hw⟩:=aaA X hc.1 h hk;exact .pure hk hn hw (by simp[execOp,];simp_all) hv
 case h_16 sz p v t a b je=>simp[]at hc;obtain⟨w',dG,Ei,hu⟩:=KSl (vW p (by simp[qd.iV]) a hc.1.2) (vW v (by simp[qd.iV]) b hc.2) hc.1.1 h hk;exact⟨.skip,w',loc,by simp[execOp,je,dG,],.inl ⟨rfl,hu⟩,Ei⟩
 case h_17 x a je=>
  have X:=vW x (by simp[qd.iV]) a hc;simp[cd]at h;split at h
  ·rename_i t s r' o' hp
   rw[hp]at X;injection h with h;subst h;obtain⟨li,D,S,h3,hv⟩:=X.FM;exact .pure hk rfl rfl (by simp[execOp,je,hv];rfl) (by grind)
  ·rename_i c o' hp
   rw[hp]at X;injection h with h;subst h;obtain⟨b,o2,vs,D,S,hv⟩:=X.Ez;exact .pure hk rfl rfl (by simp[execOp,je,hv];rfl) (by grind)
  ·rename_i f a' b' hp
   rw[hp]at X;injection h with h;subst h;generalize hg:ρ a=g at X;cases X with
   |fY fn a b as bs ha hb=>exact .pure hk rfl rfl (by simp only[execOp,je,hg];rfl) (.fY _ _ _ _ _ ha hb)
  cases h
 case h_18 off p t a f je=>
  simp[]at hc;obtain⟨hc,D⟩:=hc;have X:=vW p (by simp[qd.iV]) a D;split at hc
  ·rename_i fs hu
   split at hc
   ·rename_i g hg
    simp[]at hc;obtain⟨JK,N⟩:=hc;cases amW:P.info? g.type with
    |none=>grind
    |some i=>
     rw[amW]at N;have hz:i.size≠0:=by simpa using N
     simp[cd]at h;have: ∃z,(match p.ev e with| .ptr t s r o=>aa (PV.ptr t s r (o+off))| .cj c o=>aa (PV.cj c (o+off))|_=>Ie)=aa z/\r={v:=z}:=by
      grind
     obtain⟨z,Jq,rfl⟩:=this;obtain⟨v,dG,hv⟩:=aaI (w:=w) X hu hg JK amW hz Jq;exact .pure hk rfl rfl (by simp[execOp,];simp_all) hv
   cases hc
  cases hc
 case h_19 agg off x t a f je=>
  simp[]at hc;obtain⟨hc,D⟩:=hc;have X:=vW x (by simp[qd.iV]) a D;split at hc
  ·rename_i fs hu
   split at hc
   ·rename_i g hg
    simp[]at hc;obtain⟨JK,P2⟩:=hc;simp[cd]at h;split at h
    ·rename_i cs hp
     rw[hp]at X;obtain⟨vs,hv,wc⟩:=X.xa;rw[If]at h;obtain⟨z,hz,rfl⟩:=h;rw[<-JK]at hz;obtain⟨v,dG,Vh⟩:=aax (w:=w) P2 wc hz;refine .pure hk rfl rfl ?_ Vh;simp only[execOp,je];exact mG (by simp[Instr.field,run_underlying hu,hg,hv,asAgg,dG])
    cases h
   cases hc
  cases hc
 case h_20 aT x i t a j je=>
  simp[]at hc;obtain⟨⟨hs,D⟩,S⟩:=hc;have X:=vW x (by simp[qd.iV]) a D;have N:=vW i (by simp[qd.iV]) j S;simp only[cd]at h;cases hn:nL (i.ev e)with
  |none=>grind
  |some n=>
   rw[hn]at h;obtain⟨k,KP⟩:=wq N hn;unfold FK at hs;split at hs
   ·rename_i el hu
    have: ∃z,(match x.ev e with
     | .sl s _ rows=>match rows[n]? with
      |some cs=>if WF s aT then aa (PV.cj cs 0)else Ie
      |none=>Ie
     | .own t s off len _ _=>if KL n len&&WF s aT then aa (PV.ptr t s (off+n) 0)else Ie
     |_=>Ie)=aa z/\r={v:=z}:=by
     grind
    obtain⟨z,hz,rfl⟩:=this;obtain⟨v,dG,hv⟩:=aaJ (w:=w) (k:=k) X hu hs hz;exact .pure hk rfl rfl (by simp[execOp,];simp_all) hv
   cases hs
 case h_21 n aT p i t a j je=>
  simp[]at hc;obtain⟨⟨hs,D⟩,S⟩:=hc;have X:=vW p (by simp[qd.iV]) a D;have N:=vW i (by simp[qd.iV]) j S;simp[cd]at h;cases hn:nL (i.ev e)with
  |none=>grind
  |some m=>
   rw[hn]at h;dsimp only at h;split at h
   ·rename_i iY
    obtain⟨k,KP⟩:=wq N hn;unfold aeX at hs;split at hs
    ·rename_i m' el hu
     simp[]at hs;obtain⟨rfl,hs⟩:=hs;have: ∃z,(match p.ev e with| .ptr t s r o=>aa (PV.ptr t s r (o+m*aT))| .cj c o=>aa (PV.cj c (o+m*aT))|_=>Ie)=aa z/\r={v:=z}:=by
      grind
     obtain⟨z,hz,rfl⟩:=this;obtain⟨v,dG,hv⟩:=hvb (w:=w) (k:=k) X hu hs iY hz;exact .pure hk rfl rfl (by simp[execOp,];simp_all) hv
    cases hs
   cases h
 case h_22 n aT agg x i t a j je=>
  simp[]at hc;obtain⟨⟨hs,D⟩,S⟩:=hc;have X:=vW x (by simp[qd.iV]) a D;have N:=vW i (by simp[qd.iV]) j S;simp[cd]at h;cases hn:nL (i.ev e)with
  |none=>grind
  |some m=>
   rw[hn]at h;dsimp only at h;split at h
   ·obtain⟨k,KP⟩:=wq N hn
    split at hs
    ·rename_i m' el hu
     simp[]at hs;obtain⟨⟨rfl,hs⟩,P2⟩:=hs;split at h
     ·rename_i cs hp
      rw[hp]at X;obtain⟨vs,hv,wc⟩:=X.xa;rw[If]at h;obtain⟨z,hz,rfl⟩:=h;obtain⟨v,dG,Vh⟩:=aax (w:=w) P2 wc hz;refine .pure hk rfl rfl ?_ Vh;have asd:(0:Int)<=(m:Int)/\(m:Int)<(m':Int):=by omega
      simp only[execOp,je];exact mG (by simp only[Instr.index,KP,asIntOf,Md,YH,run_underlying hu,Y,hv,asd,and_self,if_true,pq hs,h9,dG])
     cases h
    cases hs
   cases h
 case h_23 x i t a j je=>
  simp[]at hc;obtain⟨⟨hs,D⟩,S⟩:=hc;have X:=vW x (by simp[qd.iV]) a D;have N:=vW i (by simp[qd.iV]) j S;have hu:P.underlying t=aa .string:=by
   grind
  simp[cd]at h;split at h
  ·rename_i n s hn hp
   rw[hp]at X;obtain⟨k,KP⟩:=wq N hn;split at h
   ·rename_i b hb
    injection h with h;subst h;refine .pure hk rfl rfl ?_ (.int _ _);have h0:(0:Int)<=(n:Int):=by omega
    simp only[execOp,je];exact mG (by simp[Instr.index,KP,asIntOf,run_underlying hu,X.LK,hb])
   cases h
  cases h
 case h_24 aT x l hh m t a b c d je=>
  simp[]at hc;obtain⟨⟨⟨⟨⟨h0,hs⟩,D⟩,S⟩,h3⟩,h4⟩:=hc;have X:=vW x (by simp[qd.iV]) a D;simp only[cd]at h;split at h
  ·cases h
  rename_i he
  have he:BT aT (x.ev e)=Pd:=by simpa using he
  obtain⟨S9,D7⟩:=aaT he;split at h
  ·rename_i lo N mx YL hhi hmx
   rw[If]at h;obtain⟨z,hz,rfl⟩:=h;unfold FK at hs;split at hs
   ·rename_i el hu
    have b1:=CU (λy hy=>vW y (by simp[qd.iV,];grind)) S YL;have b2:=CU (λy hy=>vW y (by simp[qd.iV,];grind)) h3 hhi;have b3:=CU (λy hy=>vW y (by simp[qd.iV,];grind)) h4 hmx;have Y6:mx.isSome=Pd->N.isSome=Pd:=by
     grind[If]
    obtain⟨v,dG,hv⟩:=sol X hu hs b1 b2 b3 Y6 S9 D7 hz;exact .pure hk rfl rfl (by simp only[execOp,je];exact mG dG) hv
   cases hs
  cases h
 case h_25 aT zero l c t a b je=>
  simp only[PP]at hc;obtain⟨⟨⟨vV,Va⟩,D⟩,S⟩:=hc;have X:=vW l (by simp[qd.iV]) a D;have hy:=vW c (by simp[qd.iV]) b S;split at vV
  ·rename_i el hu
   simp[]at vV;obtain⟨⟨⟨⟨hs,hz⟩,fi⟩,YE⟩,Ld⟩:=vV;simp only[cd]at h;split at h
   ·rename_i n m hn hm
    obtain⟨k1,lL⟩:=wq X hn;obtain⟨k2,KP⟩:=wq hy hm;split at h
    ·rename_i rJ
     simp[]at rJ;injection h with h;obtain⟨i,z,N,Ve,fJ,SQ⟩:=Mm hz Va;have Mj:z.cells.size=aT:=by omega
     have dU:=JP SQ fJ m;rw[Mj]at dU
     have mP:m<=1048576:=by simpa[gX]using rJ.2
     obtain⟨bK,hv,he⟩:=ae2 (el:=el) h.symm hk dU (by simp) (by simp) rfl rJ.1;refine⟨_,_,bK,?_,.inr ⟨_,rfl,hv⟩,he⟩;have Xb:(zeroValue el).run P w= .ok z w:=by simp[zeroValue,typeInfo,N,Ve]
     have hti:(typeInfo el).run P w= .ok i w:=by simp[typeInfo,N]
     have SU:i.bytes<=1048576:=by unfold LH at YE;simp_all
     have Nn:IntKind.i64.wrap (n:Int)=n:=LJ (by omega) (by omega);have Y7:IntKind.i64.wrap (m:Int)=m:=LJ (by omega) (by omega);have aAf:i.bytes*m<=1099511627776:=by have:=YC SU mP;omega
     have OL: ¬((i.bytes:Int)*(m:Int)>2^48):=by omega
     have YM:(sizeOf el).run P w= .ok aT w:=pq hs;simp only[execOp,je,lL,KP,Instr.makeSlice,asInt,asIntOf,Md,run_underlying hu,Y,YH,hti,Nn,Y7];have Xg:((Pw ((m:Int)<0)||Pw ((i.bytes:Int)*(m:Int)>2^48))||Pw ((n:Int)<0)||Pw ((n:Int)>(m:Int)))=EC:=by
      grind
     rw[Xg];simp[Bool.false_eq_true,if_false,Md,run_askRoom,Y,YM,h9]
     by_cases h0:m*aT=0
     ·have hm0:m=0:=by
       rcases Pv.1 h0 with h|h
       ·exact h
       rw[h]at Ld;simp at Ld
      subst hm0;simp[newRow]
      grind
     simp[h0,if_false,Md,Xb,Y,YH,Mj]
     simp[newRow]
    cases h
   cases h
  cases vV
 case h_26 fn a b g c d je=>
  simp[]at hc;obtain⟨⟨rfl,D⟩,S⟩:=hc;simp[cd,]at h;subst h;have r1:=tz (λy hy=>vW y (by simp[qd.iV,hy])) D;have r2:=tz (λy hy=>vW y (by simp[qd.iV,hy])) S;refine .pure hk rfl rfl (by simp only[execOp,je];exact mG rfl) ?_;have:=VR.fY fn _ _ _ _ r1 r2;have e1:(⟨c.toList.map ρ⟩:Array Value)=c.map ρ:=QK (by simp);have e2:(⟨d.toList.map ρ⟩:Array Value)=d.map ρ:=QK (by simp)
  grind
 case h_27 t je=>
  simp[cd,]at h
  let li:LI:=⟨w.heap.size,0,0,0,0⟩
  refine⟨.value (.map (aa w.heap.size)),{w with heap:=w.heap.push (.map #[] 0)},loc.set (hl aH) li,?_,.inr ⟨_,rfl,?_⟩,?_⟩
  ·simp[execOp,je,Instr.makeMap]
  ·subst h;exact .mp (hl aH) li (Loc.ij _ _ _)
  refine Aw.new hk (k:= .map []) li (by rw[<-h]) (by rw[<-h]) rfl rfl rfl rfl rfl ⟨#[],0,by simp[li],trivial⟩
 case h_28 i x a j je=>
  simp[]at hc;obtain⟨rfl,D⟩:=hc;have X:=vW x (by simp[qd.iV]) a D;simp[cd]at h;split at h
  ·rename_i vs hp
   rw[hp]at X;obtain⟨us,hv,wc⟩:=X.Ig;rw[If]at h;obtain⟨z,hz,rfl⟩:=h;obtain⟨u,hu,hur⟩:=wc.get i z hz;have KQ:(⟨us⟩:Array Value)[i]? =aa u:=by simpa using hu
   exact .pure hk rfl rfl (by simp only[execOp,je];exact mG (by simp[Instr.extract,hv,KQ])) hur
  cases h
 case h_29 aT x y args argTypes je=>
  simp[]at hc;obtain⟨vV,D⟩:=hc;obtain⟨a,b,Sb,PI,UC⟩:=afq D;have tB:args= #[a,b]:=QK (by simpa using Sb);have X:=vW x (by simp[qd.iV]) a PI;have hy:=vW y (by simp[qd.iV]) b UC;split at vV
  ·rename_i t tx dU
   have OM:argTypes= #[t,tx]:=QK (by simpa using dU);simp[]at vV;obtain⟨vV,S1⟩:=vV;unfold zt at S1;split at S1
   ·rename_i e' XF
    split at vV
    ·rename_i el hu
     simp[]at vV;obtain⟨⟨⟨hs,YE⟩,Ld⟩,hz⟩:=vV;cases N:P.info? el with
     |none=>grind
     |some i=>
      rw[N]at hz;cases Ve:i.zero with
      |none=>simp[Ve]at hz
      |some z=>
       have SC:z.cells.size=aT:=by rw[hx,Ve,hx]at hz;simpa using hz
       have yB:i.size=aT:=by unfold vY at hs;rw[N]at hs;simpa using hs
       have SU:i.bytes<=1048576:=by unfold LH at YE;rw[N]at YE;simpa using YE
       obtain⟨v',w',bK,dG,hv,Ei⟩:=abB (ty:=o.type) hu XF N yB Ve SC SU X hy h hk;refine⟨.value v',w',bK,?_,.inr ⟨v',rfl,hv⟩,Ei⟩;simp[execOp,je,resolve,invoke,builtin];simp_all
    cases vV
   cases S1
  cases vV
 case h_30 n zero ok m k t a b ok' je=>
  simp[]at hc;obtain⟨⟨⟨rfl,vV⟩,D⟩,S⟩:=hc;have hm:=vW m (by simp[qd.iV]) a D;have CK:=vW k (by simp[qd.iV]) b S;split at vV
  ·rename_i kt et ht
   simp[]at vV;obtain⟨k6,hz⟩:=vV;have Jq: ∃i z,P.info? et=aa i/\i.zero=aa z/\VR im loc zero z:=by
    cases N:P.info? et with
    |none=>grind
    |some i=>
     grind[QF]
   obtain⟨v,dG,hv,hn,hw⟩:=hGn ht k6 Jq hm CK h hk;exact .pure hk hn hw (by simp[execOp,];simp_all) hv
  cases vV
 case h_31 n m k v t a b c je=>
  simp[]at hc;obtain⟨⟨⟨vV,D⟩,S⟩,h3⟩:=hc;split at vV
  ·rename_i kt et ht
   simp[cd]at h;obtain⟨w',dG,Ei,hu⟩:=aeV ht vV (vW m (by simp[qd.iV]) a D) (vW k (by simp[qd.iV]) b S) (vW v (by simp[qd.iV]) c h3) h hk;exact⟨.skip,w',loc,by simp[execOp,je,dG,],.inl ⟨rfl,hu⟩,Ei⟩
  cases vV
 case h_32 aT x y args argTypes je=>
  simp only[PP]at hc;obtain⟨vV,D⟩:=hc;obtain⟨a,b,Sb,PI,UC⟩:=afq D;have tB:args= #[a,b]:=QK (by simpa using Sb);subst tB;have X:=vW x (by simp[qd.iV]) a PI;have hy:=vW y (by simp[qd.iV]) b UC;split at vV
  ·rename_i t tx dU
   have OM:argTypes= #[t,tx]:=QK (by simpa using dU);subst OM;simp only[PP]at vV;obtain⟨S1,_⟩:=vV;unfold FK at S1;split at S1
   ·rename_i el hu
    have YN: ∀{v:Value} {w':World},(Builtin.copy_ #[t,tx] o.type #[ρ a,ρ b]).run P w= .ok v w'->(execOp ρ o).run P w= .ok (.value v) w':=by intro v w' hv;simp only[execOp,je,resolve,Md,YH,Y,invoke,builtin];simp_all
    simp only[cd]at h;split at h
    ·rename_i src tk s off len cap ex KM S2
     rw[S2]at X;have Yi:Nat.min (hl src) len=min (hl src) len:=rfl;have Xi:r.rd=nK (y.ev e):=by
      grind
     obtain⟨g1,g2,g3,g4⟩:=hRl (P:=P) hy KM (min (hl src) len) (Nat.min_le_left _ _) hk.bZ (λt ht=>hk.tok t (.inl (by grind)));have ON:(src.take (min (hl src) len))=src.take len:=by
      grind
     rw[ON]at g2;have YM:(sizeOf el).run P w= .ok aT w:=pq S1;split at h
     ·rename_i QN
      injection h with h;subst h;rw[QN]at g2;have h0:min (hl src) len=0:=by
       have:=congrArg YD QN
       grind
      obtain⟨li,ad,eL,hv,_⟩:=X.kW;refine .pure hk rfl rfl (YN ?_) (.int _ _);have IJ:(Builtin.firstCells aT 0 (ρ b)).run P w= .ok #[] w:=by grind
      simp only[Builtin.copy_,hv];cases ad with
      |none=>simp[run_underlying hu,g1,Yi,h0,YM,IJ,goInt]
      |some ad=>simp[run_underlying hu,g1,Yi,h0,YM,IJ,goInt,storeCells]
     rename_i r1 rs Qo
     split at h
     ·rename_i s' rows dh
      split at h
      ·rename_i W8
       simp only[PP,vk,SL]at W8;obtain⟨rfl,hnf⟩:=W8;injection h with h;have MX:s'=s:=by obtain⟨li,ad,eL,hv,I,he,_⟩:=X.kW;obtain⟨k,lL,hb⟩:=hk.tok tk (.inr ⟨_,by rw[<-h];simp;rfl⟩) li I;rw[dh]at lL;injection lL with lL;subst lL;rw[<-hb.1,he]
       subst MX;have Eg: ∀q,q∈r1::rs->q∈src:=λq hq=>by rw[<-Qo]at hq;exact List.mem_of_mem_take hq
       have ahI:min (hl src) len=hl rs+1:=by have:=congrArg YD Qo;simp only[List.length_take,YF]at this;omega
       rw[Qo]at g2;obtain⟨b',o',c',w',hv,dG,Ei⟩:=aeZ X dh (by simp) (by simp;omega) (λq hq=>g3 q (Eg q hq)) (λq hq=>g4 q (Eg q hq)) h.symm hk;refine⟨.value (.int .i64 (Int.ofNat (hl rs+1))),w',loc,YN ?_,.inr ⟨_,rfl,by rw[<-h];exact .int _ _⟩,Ei⟩;rw[ahI]at g2;simp only[Builtin.copy_,hv];simp[run_underlying hu,g1,Yi,ahI,YM,g2,goInt,-SJ];rw[dG];rfl
      cases h
     cases h
    cases h
   cases S1
  cases vV
 case h_33 aT zero x args argTypes je=>
  simp[]at hc;obtain⟨vV,D⟩:=hc;obtain⟨a,ha,PI⟩:=aap D;have tB:args= #[a]:=QK (by simpa using ha);subst tB;have X:=vW x (by simp[qd.iV]) a PI;split at vV
  ·rename_i t dU
   have OM:argTypes= #[t]:=QK (by simpa using dU);subst OM;split at vV
   ·rename_i el hu
    simp only[PP,beq_iff_eq]at vV;obtain⟨⟨⟨hs,hz⟩,fi⟩,Va⟩:=vV;have YN: ∀{v:Value} {w':World},(Builtin.clear_ #[t] o.type #[ρ a]).run P w= .ok v w'->(execOp ρ o).run P w= .ok (.value v) w':=by intro v w' hv;simp[execOp,resolve,Md,YH,Y,invoke,builtin];simp_all
    simp only[cd]at h;split at h
    ·rename_i tk s off len cap ex S2
     rw[S2]at X;split at h
     ·injection h with h;subst h
      obtain⟨li,ad,eL,hv,_⟩:=X.kW;refine .pure (v:= .tuple #[]) hk rfl rfl (YN ?_) (.undef _);simp[Builtin.clear_,hv];cases ad<;>simp[run_underlying hu]
     rename_i len
     split at h
     ·rename_i s' rows dh
      split at h
      ·rename_i W8
       simp[PP,vk,SL]at W8;obtain⟨rfl,hnf⟩:=W8;injection h with h;have MX:s'=s:=by obtain⟨li,ad,eL,hv,I,he,_⟩:=X.kW;obtain⟨k,lL,hb⟩:=hk.tok tk (.inr ⟨_,by rw[<-h];simp;rfl⟩) li I;rw[dh]at lL;injection lL with lL;subst lL;rw[<-hb.1,he]
       subst MX;obtain⟨i,z,N,Ve,fJ,SQ⟩:=Mm hz Va;have Xh: ∀q∈SI (len+1) zero,hl q=s':=λq hq=>by rw[(YB.1 hq).2];exact fi
       have Tp: ∀q∈SI (len+1) zero,∀c∈q,c.plain=Pd:=λq hq c hc=>by rw[(YB.1 hq).2]at hc;exact SK.1 Va c hc
       obtain⟨b',o',c',w',hv,dG,Ei⟩:=aeZ (P:=P) X dh (by simp) (by simp) Xh Tp h.symm hk;refine⟨.value (.tuple #[]),w',loc,YN ?_,.inr ⟨_,rfl,by rw[<-h];exact .undef _⟩,Ei⟩;have Xb:(zeroValue el).run P w= .ok z w:=by simp[zeroValue,typeInfo,N,Ve]
       have hzc:(Builtin.zeroCells z.cells (len+1)).toList=(SI (len+1) zero).flatMap bw:=by
        have dU:=JP SQ fJ (len+1);have S0:=eS Xh;have yB:=ab2 z.cells (len+1);apply Ml;intro j;rcases YI j ((SI (len+1) zero).flatMap bw).length with hj|hj
        ·have hfj:=dU.flat j _ (NE hj)
         rw[NE hj,<-hfj];simp only[Builtin.zeroCells,KN,Array.getElem?_toList]
        rw[Mp hj,Mp]
        simp[Array.length_toList,yB];rw[S0]at hj;simp[List.length_replicate]at hj;rw[<-fJ,fi];exact hj
       simp[Builtin.clear_,hv];simp_all[run_underlying,SJ]
      cases h
     cases h
    ·rename_i e1 c1 S2
     rw[S2]at X;injection h with h;subst h;obtain⟨ad,eL,hv,_⟩:=X.uI;refine .pure (v:= .tuple #[]) hk rfl rfl (YN ?_) (.undef _);simp[Builtin.clear_,hv];cases ad<;>simp[run_underlying hu]
    cases h
   cases vV
  cases vV
 case h_34 uE x xs b args K4 je=>
  simp[]at hc;obtain⟨hb,D⟩:=hc;simp[cd]at h;have hrel:=tz (λy hy=>vW y (by assumption)) D;split at h
  ·rename_i k a hp
   rw[If]at h;obtain⟨z,hz,rfl⟩:=h;have nP:U8 e (x::xs)= .int k a::U8 e xs:=by simp[U8,hp]
   rw[nP]at hrel;generalize I:args.toList.map ρ=l at hrel;cases hrel with
   |cons _ u _ us D S=>
    obtain rfl:=D.jT;obtain⟨c,rfl,dG⟩:=ae8 (P:=P) (w:=w) S hz;refine .pure hk rfl rfl ?_ (.int k c);have sH:(args.map ρ).toList= .int k a::us:=by simpa using I
    have SU:b=if uE then .max else .min:=by grind
    subst SU;cases uE with
    |true=>simp[]at je dG;simp only[execOp,je,resolve,Md,YH,Y,invoke,builtin,Builtin.max_,sH,dG]
    |false=>simp[]at je dG;simp only[execOp,je,resolve,Md,YH,Y,invoke,builtin,Builtin.min_,sH,dG]
  cases h
 case h_37 x y t m ps je=>
  simp[]at hc;obtain⟨⟨rfl,vV⟩,hp⟩:=hc;split at vV
  ·rename_i el hu
   simp[]at vV;obtain⟨hs,hz⟩:=vV;split at hp
   ·rename_i i a j b hps
    simp[]at hp;obtain⟨⟨⟨rfl,rfl⟩,D⟩,S⟩:=hp;simp only[cd]at h;split at h
    ·rename_i JL
     simp[]at JL;injection h with h;have X:=vW x (by simp[qd.iV]) a D;have hy:=vW y (by simp[qd.iV]) b S;obtain⟨bK,hv,he⟩:=how (el:=el) X hy h.symm hk;refine⟨_,_,bK,?_,.inr ⟨_,rfl,hv⟩,he⟩;have Ve: ∃i z,P.info? el=aa i/\i.zero=aa z/\z.cells.size=1:=by
      cases N:P.info? el with
      |none=>grind
      |some i=>
       cases hq:i.zero with
       |none=>grind
       |some z=>grind
     obtain⟨i,z,N,hq,yB⟩:=Ve;have Xb:(zeroValue el).run P w= .ok z w:=by simp[zeroValue,typeInfo,N,hq]
     have c1:(ρ a).cells= #[ρ a]:=by obtain⟨q1,q2⟩:=X.QE JL.1;cases Xf:ρ a<;>first|rfl|grind|exact absurd Xf (q2 _)
     have c2:(ρ b).cells= #[ρ b]:=by obtain⟨q1,q2⟩:=hy.QE JL.2;cases Xf:ρ b<;>first|rfl|grind|exact absurd Xf (q2 _)
     have fl: ∀q:Value,Instr.fill (λi=>aa (i*1,1)) #[q,q] [(0,ρ a),(1,ρ b)]=aa #[ρ a,ρ b]:=λq=>by
      have s1:(⟨uA (0*1) (ρ a).cells.toList (#[q,q]:Array Value).toList⟩:Array Value)= #[ρ a,q]:=by rw[c1];rfl
      have s2:(⟨uA (1*1) (ρ b).cells.toList (#[ρ a,q]:Array Value).toList⟩:Array Value)= #[ρ a,ρ b]:=by rw[c2];rfl
      rw[FN rfl (by rw[c1];rfl) (by simp),s1,FN rfl (by rw[c2];rfl) (by simp),s2];rfl
     simp only[execOp,je,Instr.buildSlice,Md,run_underlying hu,Y,pq hs];have e0:(Sy (λx=>z.cells[x%z.cells.size]!) (KO (2*1)))= #[z.cells[0]!,z.cells[0]!]:=by rw[yB,show KO (2*1)= #[0,1]from by decide];simp
     have big: ¬(2*1>2^24):=by decide
     have hn1: ¬(2*1=0):=by decide
     have ml:(ps.map λ(i,x)=>(i,ρ x)).toList=[(0,ρ a),(1,ρ b)]:=by simp_all
     simp only[big,hn1,if_false,Md,Xb,Y,YH];rw[e0,ml,fl];simp[newRow]
    cases h
   cases hp
  cases vV
 case h_38 n m k v t a b c je=>
  simp[]at hc;obtain⟨⟨⟨vV,D⟩,S⟩,h3⟩:=hc;split at vV
  ·rename_i kt et ht
   simp[cd]at h;obtain⟨w',dG,Ei,hu⟩:=aeV ht vV (vW m (by simp[qd.iV]) a D) (vW k (by simp[qd.iV]) b S) (vW v (by simp[qd.iV]) c h3) h hk;exact⟨.skip,w',loc,by simp[execOp,je,dG,],.inl ⟨rfl,hu⟩,Ei⟩
  cases vV
 all_goals first|(simp only[cd]at h;cases h;done)|(simp at hc;done)
end
end Go.Vm
/- What goes over the border of a pure call, and what comes back. -/
namespace Go.Vm
def jy:Loc:=λ_=>Ie
def grow(im:Im)(w:World)(bs:J Nat):Im:=λb=>match im b with
 |some o=>aa o
 |none=>if bs.contains b then w.heap[b]? else Ie
theorem QO(im:Im)(w:World)(bs:J Nat):uH im (grow im w bs):=λb o h=>by unfold grow;rw[h]
theorem aas{im:Im}{w:World}{bs:J Nat}(h: ∀b o,im b=aa o->w.heap[b]? =aa o): ∀b o,grow im w bs b=aa o->w.heap[b]? =aa o:=by
 intro b o hb;unfold grow at hb
 grind
theorem ae0{im:Im}{w:World}{bs:J Nat}(h: ∀b o,im b=aa o->w.heap[b]? =aa o){b:Nat}(hb:b∈bs):grow im w bs b=w.heap[b]?:=by
 unfold grow
 grind
theorem aaW{im:Im}{w:World}{bs:J Nat}{b:Nat}{o:Obj}(h:grow im w bs b=aa o):im b=aa o\/b∈bs:=by
 unfold grow at h
 grind
def Hi(loc:Loc)(aH:dp)(tk:J Nat):J Nat:=tk.filterMap λt=>if(aH[t]?).any pT.cu then(loc t).map (·.eK)else Ie
theorem Hj{loc:Loc}{aH:dp}{tk:J Nat}{b:Nat}:b∈Hi loc aH tk↔ ∃t li k,t∈tk/\loc t=aa li/\aH[t]? =aa k/\k.cu=Pd/\li.eK=b:=by
 unfold Hi
 grind[If]
theorem tC{e:Nat}{rows:J Row}(h:rows≠[]):(pT.arr e rows).cu=Pd:=by
 cases rows with
 |nil=>grind
 |cons _ _=>rfl
section
variable {im fZ : Im} {loc : Loc} {aH : dp} {w : World}
def Over(im fZ:Im)(loc:Loc)(aH:dp)(w:World)(t:Nat):Prop:=
 ∀li,loc t=aa li-> ∃k,aH[t]? =aa k/\BR im loc w li k/\(k.cu=Pd->fZ li.eK=w.heap[li.eK]?)
def Qp(fZ:Im)(loc:Loc)(bx:Nat->O (J PV))(t:Nat):Prop:=
 ∀li cs,loc t=aa li->bx t=aa cs-> ∃vs,gW fZ jy cs vs/\ ∀(j:Nat) (v:Value),vs[j]? =aa v->wm fZ li.eK (li.sh+j)=aa v
theorem FP{b o:Nat}{cs:Array Value}{el:TypeId}{fr:Nat×Nat}(h:im b=aa (.cells cs el fr)):wm im b o=cs[o]?:=by unfold wm;rw[h]
theorem cw.aat{get:Nat->O Value}{sh aT off len:Nat}{rows:J Row}(h:cw get sh aT rows):cw get (sh+off*aT) aT ((rows.drop off).take len):=(h.drop off).take len
mutual
theorem ai7(N:uH im fZ){bx:Nat->O (J PV)}{tb:Nat->J Nat}(hb: ∀t,(∀u,u∈tb t->Over im fZ loc aH w u)->Over im fZ loc aH w t->Qp fZ loc bx t):
 ∀{x y:PV} {v:Value},(∀t,t∈np tb x->Over im fZ loc aH w t)->VR im loc x v->JD aH bx x=aa y->VR fZ jy y v
 | .undef,y,v,_,_,h=>by simp[JD]at h
 | .oI,y,v,_,_,h=>by simp[JD]at h
 | .int k n,y,v,_,hv,h=>by simp[JD,IR]at h;subst h;rw[hv.jT];exact .int _ _
 | .bool b,y,v,_,hv,h=>by simp[JD,IR]at h;subst h;rw[hv.oc];exact .bool _
 | .str b,y,v,_,hv,h=>by simp[JD,IR]at h;subst h;rw[hv.LK];exact .str _
 | .agg cs,y,v,ht,hv,h=>by simp[JD,If]at h;obtain⟨ys,My,rfl⟩:=h;obtain⟨vs,rfl,wc⟩:=hv.xa;exact .agg _ _ (EG N hb (λt h=>ht t (by simpa[np]using h)) wc My)
 | .cT cs,y,v,ht,hv,h=>by simp[JD,If]at h;obtain⟨ys,My,rfl⟩:=h;obtain⟨vs,rfl,wc⟩:=hv.Ig;exact .cT _ _ (EG N hb (λt h=>ht t (by simpa[np]using h)) wc My)
 | .sl e c rows,y,v,_,hv,h=>by simp[JD,IR]at h;subst h;obtain⟨a,cap,rfl,D,S,h3⟩:=hv.uI;exact .sl e EC rows a cap D (by simp) λfk=>let ⟨b,o,ha,hr⟩:=h3 fk;⟨b,o,ha,hr.mono λ_ _ e=>N.cell e⟩
 | .own t e off len cap ex,y,v,ht,hv,h=>by
  obtain⟨li,a,eL,rfl,I,S,h3,h4,h5,h6,h7⟩:=hv.kW;obtain⟨k,hk,Az,IK⟩:=ht t (by simp[np]) li I;simp[JD,hk]at h;cases k with
  |arr e' rows=>
   simp[IR]at h;obtain⟨b1,b2,b3⟩:=Az;have fJ:((rows.drop off).take len).length=len:=by simp;omega
   have he:e'=e:=by rw[<-b1,S]
   subst he;have:=VR.sl (im:=fZ) (loc:=jy) e' EC ((rows.drop off).take len) a eL (by omega) (by simp) (λfk=>by
    have xJ:rows≠[]:=by intro e;subst e;simp at fk
    obtain⟨arr,el,GB,UY,Sz,dU⟩:=b3 xJ;rcases h7 with h7|⟨_,rfl,_⟩
    ·exfalso;apply fk;apply SM.1;omega
    refine⟨_,_,rfl,dU.aat.mono λk v No=>?_⟩
    rw[FP (by rw[IK (tC xJ)];exact GB)];exact No)
   grind
  |_=>cases h
 | .ptr t e row off,y,v,ht,hv,h=>by
  obtain⟨li,I,he,hn,rfl⟩:=hv.FM;obtain⟨k,hk,Az,IK⟩:=ht t (by simp[np]) li I;simp[JD,hk]at h;cases k with
  |arr e' rows=>
   simp[If]at h;obtain⟨r,hr,rfl⟩:=h;obtain⟨b1,b2,b3⟩:=Az;have xJ:rows≠[]:=by grind
   obtain⟨arr,el,GB,UY,Sz,dU⟩:=b3 xJ;have U':e'=e:=by rw[<-b1,he]
   subst U';obtain⟨D,S⟩:=Ax dU hr;exact .cj r off li.eK (li.sh+row*e') _ D λj v hj=>by grind[FP,tC]
  |box cs=>
   dsimp only at h;split at h
   ·rename_i Ef
    have Ef:row=0:=by simpa using Ef
    subst Ef;rw[If]at h;obtain⟨ys,My,rfl⟩:=h;obtain⟨vs,D,S⟩:=hb t (λu hu=>ht u (by simp[np,hu])) (ht t (by simp[np])) li ys I My;exact .cj ys off li.eK (li.sh+0*e) vs D λj v hj=>by grind
   cases h
  |_=>cases h
 | .cj cs off,y,v,ht,hv,h=>by simp[JD,If]at h;obtain⟨ys,My,rfl⟩:=h;obtain⟨b,o,vs,D,S,rfl⟩:=hv.Ez;exact .cj ys off b o vs (EG N hb (λt h=>ht t (by simpa[np]using h)) D My) λj v hj=>N.cell (S j v hj)
 | .mp t,y,v,_,_,h=>by simp[JD]at h
 | .fY fn a b,y,v,ht,hv,h=>by
  simp[JD]at h;cases ha:L9 aH bx a with
  |none=>grind
  |some a'=>
   cases KK:L9 aH bx b with
   |none=>grind
   |some b'=>
    rw[ha,KK]at h;simp[IR]at h;subst h;cases hv with
    |fY _ _ _ as bs D S=>exact .fY fn a' b' as bs (EG N hb (λt h=>ht t (by simp[np,h])) D ha) (EG N hb (λt h=>ht t (by simp[np,h])) S KK)
 | .fC,y,v,_,hv,h=>by simp[JD,IR]at h;subst h;cases hv;exact .fC
theorem EG(N:uH im fZ){bx:Nat->O (J PV)}{tb:Nat->J Nat}(hb: ∀t,(∀u,u∈tb t->Over im fZ loc aH w u)->Over im fZ loc aH w t->Qp fZ loc bx t):
 ∀{x y:J PV} {v:J Value},(∀t,t∈gJ tb x->Over im fZ loc aH w t)->gW im loc x v->L9 aH bx x=aa y->gW fZ jy y v
 | [],y,v,_,hv,h=>by simp[L9,IR]at h;subst h;cases hv;exact .nil
 |x::xs,y,v,ht,hv,h=>by
  simp[L9]at h;cases X:JD aH bx x with
  |none=>grind
  |some x'=>
   cases SS:L9 aH bx xs with
   |none=>grind
   |some WN=>
    rw[X,SS]at h;simp[IR]at h;subst h;cases hv with
    |cons _ u _ us D S=>exact .cons _ _ _ _ (ai7 N hb (λt h=>ht t (by simp[gJ,h])) D X) (EG N hb (λt h=>ht t (by simp[gJ,h])) S SS)
end
theorem aau(N:uH im fZ): ∀(n:Nat) (t:Nat),(∀u,u∈kq aH n t->Over im fZ loc aH w u)->Over im fZ loc aH w t->Qp fZ loc (JE aH n) t
 |0,t,_,_=>by intro li cs _ h;cases h
 |n+1,t,ht,hto=>by
  intro li cs I h;obtain⟨k,hk,Az,IK⟩:=hto li I;simp[JE,hk]at h;cases k with
  |box cells=>obtain⟨b1,b2,b3,vs,el,h4,h5,h6⟩:=Az;refine⟨vs,EG N (λt'=>aau N n t') (λu hu=>ht u (by simp[kq,hk,hu])) h6 h,λj v hj=>?_⟩;rw[FP (by rw[IK rfl];exact h4),b3];simpa using hj
  |_=>cases h
end
end Go.Vm
/- A pure call: what comes back. -/
namespace Go.Vm
section
variable {im fZ : Im} {loc bK : Loc} {aH : dp} {w : World}
mutual
theorem aaK: ∀{x:PV} {v:Value},x.tg=Pd->VR im loc x v->VR fZ bK x v
 | .int k n,v,_,h=>by rw[h.jT];exact .int _ _
 | .bool b,v,_,h=>by rw[h.oc];exact .bool _
 | .str s,v,_,h=>by rw[h.LK];exact .str _
 | .agg cs,v,hn,h=>by obtain⟨vs,rfl,hr⟩:=h.xa;exact .agg _ _ (JR (by simpa[PV.tg]using hn) hr)
 | .cT cs,v,hn,h=>by obtain⟨vs,rfl,hr⟩:=h.Ig;exact .cT _ _ (JR (by simpa[PV.tg]using hn) hr)
 | .undef,_,hn,_=>by simp[PV.tg]at hn
 | .oI,_,hn,_=>by simp[PV.tg]at hn
 | .sl ..,_,hn,_=>by simp[PV.tg]at hn
 | .own ..,_,hn,_=>by simp[PV.tg]at hn
 | .ptr ..,_,hn,_=>by simp[PV.tg]at hn
 | .cj ..,_,hn,_=>by simp[PV.tg]at hn
 | .mp ..,_,hn,_=>by simp[PV.tg]at hn
 | .fY ..,_,hn,_=>by simp[PV.tg]at hn
 | .fC,_,hn,_=>by simp[PV.tg]at hn
theorem JR: ∀{x:J PV} {v:J Value},CN x=Pd->gW im loc x v->gW fZ bK x v
 | [],_,_,h=>by cases h;exact .nil
 |x::xs,_,hn,h=>by
  simp only[CN,PP]at hn;cases h with
  |cons _ u _ us D S=>exact .cons _ _ _ _ (aaK hn.1 D) (JR hn.2 S)
end
mutual
theorem aaY(N:uH im fZ): ∀{x y:PV} {v:Value},(∀t,t∈np BU x->Over im fZ loc aH w t)->VR im loc x v->H7 aH x=aa y->VR fZ bK y v
 | .int k n,y,v,_,hv,h=>by simp only[H7,IR]at h;subst h;rw[hv.jT];exact .int _ _
 | .bool b,y,v,_,hv,h=>by simp only[H7,IR]at h;subst h;rw[hv.oc];exact .bool _
 | .str b,y,v,_,hv,h=>by simp only[H7,IR]at h;subst h;rw[hv.LK];exact .str _
 | .agg cs,y,v,ht,hv,h=>by simp only[H7,If]at h;obtain⟨ys,My,rfl⟩:=h;obtain⟨vs,rfl,wc⟩:=hv.xa;exact .agg _ _ (QP N (λt h=>ht t (by simpa[np]using h)) wc My)
 | .cT cs,y,v,ht,hv,h=>by simp only[H7,If]at h;obtain⟨ys,My,rfl⟩:=h;obtain⟨vs,rfl,wc⟩:=hv.Ig;exact .cT _ _ (QP N (λt h=>ht t (by simpa[np]using h)) wc My)
 | .sl e c rows,y,v,_,hv,h=>by simp only[H7,IR]at h;subst h;obtain⟨a,cap,rfl,D,S,h3⟩:=hv.uI;exact .sl e EC rows a cap D (by simp) λfk=>let ⟨b,o,ha,hr⟩:=h3 fk;⟨b,o,ha,hr.mono λ_ _ e=>N.cell e⟩
 | .own t e off len cap ex,y,v,ht,hv,h=>by
  obtain⟨li,a,eL,rfl,I,S,h3,h4,h5,h6,h7⟩:=hv.kW;obtain⟨k,hk,Az,IK⟩:=ht t (by simp[np]) li I;simp only[H7,hk]at h;cases k with
  |arr e' rows=>
   simp only[IR]at h;subst h;obtain⟨b1,b2,b3⟩:=Az;have fJ:((rows.drop off).take len).length=len:=by simp;omega
   have he:e'=e:=by rw[<-b1,S]
   subst he;have:=VR.sl (im:=fZ) (loc:=bK) e' EC ((rows.drop off).take len) a eL (by omega) (by simp) (λfk=>by
    have xJ:rows≠[]:=by intro e;subst e;simp at fk
    obtain⟨arr,el,GB,UY,Sz,dU⟩:=b3 xJ;rcases h7 with h7|⟨_,rfl,_⟩
    ·exfalso;apply fk;apply SM.1;omega
    refine⟨_,_,rfl,dU.aat.mono λk v No=>?_⟩
    rw[FP (by rw[IK (tC xJ)];exact GB)];exact No)
   rwa [fJ]at this
  |_=>cases h
 | .undef,_,_,_,_,h=>by simp[H7]at h
 | .oI,_,_,_,_,h=>by simp[H7]at h
 | .ptr ..,_,_,_,_,h=>by simp[H7]at h
 | .cj ..,_,_,_,_,h=>by simp[H7]at h
 | .mp ..,_,_,_,_,h=>by simp[H7]at h
 | .fY ..,_,_,_,_,h=>by simp[H7]at h
 | .fC,_,_,_,_,h=>by simp[H7]at h
theorem QP(N:uH im fZ): ∀{x y:J PV} {v:J Value},(∀t,t∈gJ BU x->Over im fZ loc aH w t)->gW im loc x v->Qy aH x=aa y->gW fZ bK y v
 | [],y,v,_,hv,h=>by simp only[Qy,IR]at h;subst h;cases hv;exact .nil
 |x::xs,y,v,ht,hv,h=>by
  simp only[Qy]at h;cases X:H7 aH x with
  |none=>rw[X]at h;cases h
  |some x'=>
   cases SS:Qy aH xs with
   |none=>rw[X,SS]at h;cases h
   |some WN=>
    rw[X,SS]at h;simp only[IR]at h;subst h;cases hv with
    |cons _ u _ us D S=>exact .cons _ _ _ _ (aaY N (λt h=>ht t (by simp[gJ,h])) D X) (QP N (λt h=>ht t (by simp[gJ,h])) S SS)
end
theorem xd{l:J Nat}{t:Nat}:has l t=Pd↔t∈l:=by unfold has;simp
theorem oe{l:J Nat}{t:Nat}:has l t=EC↔t∉l:=by rw[<-xd];simp
def ase:Im:=λ_=>Ie
structure M0(eQ:Loc)(uN:dp)(OE:List Nat)(w:World)(seen iD:List Nat)(news:dp)(SW:List LI)(ts:List (Option Nat)):Prop where
 QQ:(hl SW)=hl news
 Sr:(hl ts)=hl news
 br: ∀(j:Nat) (k:pT) (li:LI),news[j]? =aa k->SW[j]? =aa li->(∃e rows,k= .arr e rows)/\BR ase jy w li k
 own: ∀(j:Nat) (k:pT) (li:LI) (t:Nat),news[j]? =aa k->SW[j]? =aa li->ts[j]? =aa (aa t)->eQ t=aa li/\uN[t]? =aa k/\t∉OE/\t∈iD/\t∉seen
 Ue: ∀(j:Nat) (k:pT),news[j]? =aa k->ts[j]? =aa Ie->k.cu=EC
 inj: ∀(i j t:Nat),ts[i]? =aa (aa t)->ts[j]? =aa (aa t)->i=j
 sub: ∀t,t∈seen->t∈iD
theorem M0.none{eQ:Loc}{uN:dp}{OE:J Nat}{seen:J Nat}:M0 eQ uN OE w seen seen [] [] [] where
 QQ:=rfl
 Sr:=rfl
 br:=λj k li h=>by simp at h
 own:=λj k li t h=>by simp at h
 Ue:=λj k h=>by simp at h
 inj:=λi j t h=>by simp at h
 sub:=λ_ h=>h
theorem jU{α:Type}{a b:J α}{j:Nat}{x:α}(h:(a++b)[j]? =aa x):(j<hl a/\a[j]? =aa x)\/(hl a<=j/\b[j-(hl a)]? =aa x):=by
 grind
theorem M0.append{eQ:Loc}{uN:dp}{OE s0 s1 s2:J Nat}{n1 n2:dp}{l1 l2:J LI}{t1 t2:J _}(h:M0 eQ uN OE w s0 s1 n1 l1 t1)(k:M0 eQ uN OE w s1 s2 n2 l2 t2):
 M0 eQ uN OE w s0 s2 (n1++n2) (l1++l2) (t1++t2):=by
 have e1:=h.QQ;have e2:=h.Sr;have asf: ∀(j t:Nat),t1[j]? =aa (aa t)->t∈s1:=by intro j t ht;have hj:=(Sw.1 ht).1;exact(h.own j n1[j] l1[j] t (NE (by omega)) (NE (by omega)) ht).2.2.2.1
 have ard: ∀(j t:Nat),t2[j]? =aa (aa t)->t∉s1:=by intro j t ht;have hj:=(Sw.1 ht).1;have:=k.QQ;have:=k.Sr;exact(k.own j n2[j] l2[j] t (NE (by omega)) (NE (by omega)) ht).2.2.2.2
 refine⟨by simp[e1,k.QQ],by simp[e2,k.Sr],λj b li hb I=>?_,λj b li t hb I ht=>?_,λj b hb ht=>?_,λi j t N hj=>?_,λt ht=>k.sub t (h.sub t ht)⟩
 ·rcases jU hb with⟨D,hb⟩|⟨D,hb⟩
  ·rcases jU I with⟨S,I⟩|⟨S,I⟩
   ·exact h.br j b li hb I
   omega
  rcases jU I with⟨S,I⟩|⟨S,I⟩
  ·omega
  rw[e1]at I;exact k.br _ b li hb I
 ·rcases jU hb with⟨D,hb⟩|⟨D,hb⟩
  ·rcases jU I with⟨S,I⟩|⟨S,I⟩
   ·rcases jU ht with⟨h3,ht⟩|⟨h3,ht⟩
    ·obtain⟨a1,a2,a3,a4,a5⟩:=h.own j b li t hb I ht
     exact⟨a1,a2,a3,k.sub t a4,a5⟩
    omega
   omega
  rcases jU I with⟨S,I⟩|⟨S,I⟩
  ·omega
  rcases jU ht with⟨h3,ht⟩|⟨h3,ht⟩
  ·omega
  rw[e1]at I;rw[e2]at ht
  obtain⟨a1,a2,a3,a4,a5⟩:=k.own _ b li t hb I ht;exact⟨a1,a2,a3,a4,λhs=>a5 (h.sub t hs)⟩
 ·rcases jU hb with⟨D,hb⟩|⟨D,hb⟩
  ·rcases jU ht with⟨h3,ht⟩|⟨h3,ht⟩
   ·exact h.Ue j b hb ht
   omega
  rcases jU ht with⟨h3,ht⟩|⟨h3,ht⟩
  ·omega
  rw[e2]at ht;exact k.Ue _ b hb ht
 rcases jU N with⟨D,N⟩|⟨D,N⟩
 ·rcases jU hj with⟨S,hj⟩|⟨S,hj⟩
  ·exact h.inj i j t N hj
  grind
 rcases jU hj with⟨S,hj⟩|⟨S,hj⟩
 ·grind
 have:=k.inj _ _ t N hj;omega
def ahM(eQ:Loc)(uN:dp)(OF:Im)(w:World):Prop:= ∀t li,eQ t=aa li-> ∃k,uN[t]? =aa k/\BR OF eQ w li k
mutual
theorem aaZ{OF:Im}{eQ:Loc}{uN:dp}{OE:J Nat}(hk:ahM eQ uN OF w): ∀{x y:PV} {v:Value} {nx:Nat} {seen iD:J Nat} {news:dp},
 VR OF eQ x v->H8 uN OE nx seen x=aa (y,news,iD)->
 ∃SW ts,M0 eQ uN OE w seen iD news SW ts/\ ∀(Ms:Im) (zw:Loc),(∀(j:Nat) (li:LI),SW[j]? =aa li->zw (nx+j)=aa li)->VR Ms zw y v
 | .int k n,y,v,nx,seen,iD,news,hv,h=>by simp only[H8,IR,EE]at h;obtain⟨rfl,rfl,rfl⟩:=h;exact⟨[],[],.none,λ_ _ _=>by rw[hv.jT];exact .int _ _⟩
 | .bool k,y,v,nx,seen,iD,news,hv,h=>by simp only[H8,IR,EE]at h;obtain⟨rfl,rfl,rfl⟩:=h;exact⟨[],[],.none,λ_ _ _=>by rw[hv.oc];exact .bool _⟩
 | .agg cs,y,v,nx,seen,iD,news,hv,h=>by simp only[H8,If,EE]at h;obtain⟨⟨ys,n2,s2⟩,hr,rfl,rfl,rfl⟩:=h;obtain⟨vs,rfl,wc⟩:=hv.xa;obtain⟨SW,ts,D,S⟩:=QR hk wc hr;exact⟨SW,ts,D,λMs zw I=> .agg _ _ (S Ms zw I)⟩
 | .cT cs,y,v,nx,seen,iD,news,hv,h=>by simp only[H8,If,EE]at h;obtain⟨⟨ys,n2,s2⟩,hr,rfl,rfl,rfl⟩:=h;obtain⟨vs,rfl,wc⟩:=hv.Ig;obtain⟨SW,ts,D,S⟩:=QR hk wc hr;exact⟨SW,ts,D,λMs zw I=> .cT _ _ (S Ms zw I)⟩
 | .sl e c rows,y,v,nx,seen,iD,news,hv,h=>by
  obtain⟨a,cap,rfl,D,S,h3⟩:=hv.uI;cases c with
  |false=>simp[H8]at h
  |true=>
   cases rows with
   |cons r rs=>simp[H8]at h
   |nil=>
    simp only[H8,IR,EE]at h;obtain⟨rfl,rfl,rfl⟩:=h;have OJ:cap=0:=S rfl;subst OJ;refine⟨[⟨0,0,e,0,0⟩],[Ie],⟨rfl,rfl,λj k li hj I=>?_,λj k li t hj I ht=>?_,λj k hj ht=>?_,λi j t N hj=>?_,λ_ h=>h⟩,λMs zw I=>?_⟩
    ·cases j with
     |zero=>simp at hj I;subst hj I;exact⟨⟨_,_,rfl⟩,rfl,rfl,λfk=>absurd rfl fk⟩
     |succ j=>simp at hj
    ·cases j<;>simp at ht
    ·cases j with
     |zero=>simp at hj;subst hj;rfl
     |succ j=>simp at hj
    ·cases i<;>simp at N
    exact .own nx e 0 0 0 EC ⟨0,0,e,0,0⟩ a 0 (I 0 _ rfl) rfl (Pc _) (Pc _) (Pc _) (by simp) (.inl rfl)
 | .own t e off len cap ex,y,v,nx,seen,iD,news,hv,h=>by
  obtain⟨li,a,eL,rfl,I,S,h3,h4,h5,h6,h7⟩:=hv.kW;obtain⟨k,CK,Az⟩:=hk t li I;simp only[H8,CK]at h;cases k with
  |arr e' rows=>
   dsimp only at h;split at h
   ·cases h
   rename_i hs
   simp only[Pu,not_or,Bool.not_eq_true]at hs;simp only[IR,EE]at h;obtain⟨rfl,rfl,rfl⟩:=h;refine⟨[li],[aa t],⟨rfl,rfl,λj k li' hj sH=>?_,λj k li' t' hj sH ht=>?_,λj k hj ht=>?_,λi j t N hj=>?_,λ_ h=>Vf _ h⟩,λMs zw SA=>?_⟩
   ·cases j with
    |zero=>simp at hj sH;subst hj sH;exact⟨⟨_,_,rfl⟩,Az⟩
    |succ j=>simp at hj
   ·cases j with
    |zero=>simp at hj sH ht;subst hj sH ht;exact⟨I,CK,oe.1 hs.2,by simp,oe.1 hs.1⟩
    |succ j=>simp at hj
   ·cases j<;>simp at ht
   ·cases i with
    |zero=>
     cases j with
     |zero=>rfl
     |succ j=>simp at hj
    |succ i=>simp at N
   exact .own nx e off len cap EC li a eL (SA 0 _ rfl) S h3 h4 h5 (λh=>by cases h) h7
  |_=>cases h
 | .str s,y,v,nx,seen,iD,news,hv,h=>by simp[H8]at h
 | .undef,y,v,nx,seen,iD,news,hv,h=>by simp[H8]at h
 | .oI,y,v,nx,seen,iD,news,hv,h=>by simp[H8]at h
 | .ptr ..,y,v,nx,seen,iD,news,hv,h=>by simp[H8]at h
 | .cj ..,y,v,nx,seen,iD,news,hv,h=>by simp[H8]at h
 | .mp ..,y,v,nx,seen,iD,news,hv,h=>by simp[H8]at h
 | .fY ..,y,v,nx,seen,iD,news,hv,h=>by simp[H8]at h
 | .fC,y,v,nx,seen,iD,news,hv,h=>by simp[H8]at h
theorem QR{OF:Im}{eQ:Loc}{uN:dp}{OE:J Nat}(hk:ahM eQ uN OF w): ∀{x y:J PV} {v:J Value} {nx:Nat} {seen iD:J Nat} {news:dp},
 gW OF eQ x v->Qz uN OE nx seen x=aa (y,news,iD)->
 ∃SW ts,M0 eQ uN OE w seen iD news SW ts/\ ∀(Ms:Im) (zw:Loc),(∀(j:Nat) (li:LI),SW[j]? =aa li->zw (nx+j)=aa li)->gW Ms zw y v
 | [],y,v,nx,seen,iD,news,hv,h=>by simp only[Qz,IR,EE]at h;obtain⟨rfl,rfl,rfl⟩:=h;cases hv;exact⟨[],[],.none,λ_ _ _=> .nil⟩
 |x::xs,y,v,nx,seen,iD,news,hv,h=>by
  simp only[Qz]at h;cases D:H8 uN OE nx seen x with
  |none=>rw[D]at h;cases h
  |some r1=>
   obtain⟨y1,n1,s1⟩:=r1;rw[D]at h;dsimp only at h;cases S:Qz uN OE (nx+hl n1) s1 xs with
   |none=>rw[S]at h;cases h
   |some r2=>
    obtain⟨y2,n2,s2⟩:=r2;rw[S]at h;simp only[IR,EE]at h;obtain⟨rfl,rfl,rfl⟩:=h;cases hv with
    |cons _ u _ us X SS=>
     obtain⟨l1,t1,a1,b1⟩:=aaZ hk X D;obtain⟨l2,t2,a2,b2⟩:=QR hk SS S;refine⟨l1++l2,t1++t2,a1.append a2,λMs zw I=> .cons _ _ _ _ (b1 Ms zw λj li hj=>?_) (b2 Ms zw λj li hj=>?_)⟩
     ·have:=(Sw.1 hj).1
      exact I j li (by rw[Ii this];exact hj)
     have:=I (hl n1+j) li (by rw[SG (by rw[a1.QQ];omega),a1.QQ,show(hl n1)+j-(hl n1)=j by omega];exact hj)
     rwa [<-Mg]at this
end
end
end Go.Vm
/- A pure call, whole. -/
namespace Go.Vm
structure B6(im:Im)(loc:Loc)(aH:dp)(w:World)(v:PV)(B7:dp)(QS:List Nat)(fZ:Im)(bK:Loc)(w':World)(u:Value):Prop where
 kx:uH im fZ
 fA:rD loc bK
 vr:VR fZ bK v u
 sr:SR fZ bK B7 QS w'
 os:w'.os=w.os
 tape:Tape w w'
 output:w'.output=w.output
 size:w.heap.size<=w'.heap.size
 frame: ∀b,b<w.heap.size->(∀t li k,loc t=aa li->aH[t]? =aa k->k.cu=Pd->li.eK≠b)->w'.heap[b]? =w.heap[b]?
 fG: ∀b o,fZ b=aa o->im b=aa o\/w.heap.size<=b\/ ∃t li k,loc t=aa li/\aH[t]? =aa k/\k.cu=Pd/\li.eK=b
 uB: ∀t li,bK t=aa li->loc t=aa li\/hl aH<=t
 own: ∀t li k,bK t=aa li->B7[t]? =aa k->k.cu=Pd->(w.heap.size<=li.eK\/ ∃u lu ku,loc u=aa lu/\aH[u]? =aa ku/\ku.cu=Pd/\lu.eK=li.eK)
def Bo(P:Program)(f:FuncId)(us:Array Value)(w:World)(R:Value->World->Prop):Prop:=
 (∃v w',(callFunc f us).run P w= .ok (.value v) w'/\R v w')\/
 ((callFunc f us).run P w= .ok (.enter f us) w/\Calls P f us w λe w'=> ∃v,e= .returned v/\R v w')
theorem Bo.mono{P:Program}{f:FuncId}{us:Array Value}{w:World}{R R':Value->World->Prop}(h:Bo P f us w R)(hr: ∀v w',R v w'->R' v w'):Bo P f us w R':=by
 rcases h with⟨v,w',D,S⟩|⟨D,S⟩
 ·exact .inl ⟨v,w',D,hr _ _ S⟩
 exact .inr ⟨D,S.mono λe w' ⟨v,he,hv⟩=>⟨v,he,hr _ _ hv⟩⟩
def JS (P : Program) (rec : Task -> O Out) : Prop :=
  ∀ (f : FuncId) (args : J PV) (aH : dp) (fz : J Nat) (v : PV) (B7 : dp) (QS : J Nat), rec (.func f args aH fz) = aa (.func v B7 QS) ->
    ∀ (im : Im) (loc : Loc) (w : World) (us : J Value), SR im loc aH fz w -> gW im loc args us ->
      Bo P f ⟨us⟩ w fun u w' => ∃ fZ bK, B6 im loc aH w v B7 QS fZ bK w' u
def QT (P : Program) (f : FuncId) (p : J PV -> O (PV × dp)) : Prop :=
  ∀ (args : J PV) (v : PV) (news : dp), p args = aa (v, news) -> ∀ (im : Im) (w : World) (us : J Value), SR im jy [] [] w -> gW im jy args us ->
    Bo P f ⟨us⟩ w fun u w' => ∃ fZ bK, B6 im jy [] w v news [] fZ bK w' u
def Ij (P : Program) (f : FuncId) (p : J PV -> dp -> J Nat -> O (PV × dp × J Nat)) : Prop :=
  ∃ fn c, P.funcs[f]? = aa fn /\ (fn.name == "runtime.NumGoroutine") = EC /\ fn.body = aa c /\
    ∀ (args : J PV) (aH : dp) (fz : J Nat) (v : PV) (B7 : dp) (QS : J Nat), p args aH fz = aa (v, B7, QS) ->
      ∀ (im : Im) (loc : Loc) (w : World) (us : J Value), SR im loc aH fz w -> gW im loc args us ->
        Bo P f ⟨us⟩ w fun u w' => ∃ fZ bK, B6 im loc aH w v B7 QS fZ bK w' u
def FQ(P:Program)(W7:s9):Prop:=(∀f k p,W7 f=aa (.p7 k p)->k=EC/\QT P f p)/\ ∀f p,W7 f=aa (.OG p)->Ij P f p
section
variable {P : Program} {W7 : s9} {rec : Task -> O Out} {im : Im} {loc : Loc} {aH : dp} {w : World}
theorem SR.empty(h: ∀b o,im b=aa o->w.heap[b]? =aa o):SR im jy [] [] w where
 bZ:=h
 eK:=λt li h=>by cases h
 mE:=λt u li lj k k' h=>by cases h
 free:=λt li k h=>by cases h
theorem hn2{r:v7}{v:PV}{u:Value}{uN:dp}{OE:J Nat}{px OF:Im}{eQ:Loc}{w1:World}(hk:nM im loc aH w r)(hr:r.v=v)(hn:r.news=[])(hw:r.wr=[])(Qq:v.tg=Pd)
 (hp:B6 px jy [] w v uN OE OF eQ w1 u): ∃fZ bK,VR fZ bK r.v u/\Aw im loc aH w r fZ bK w1:=by
 refine⟨im,loc,by rw[hr];exact aaK Qq hp.vr,?_⟩;have Bm:=λb hb=>hp.frame b hb λt li k h=>by cases h
 exact {
  kx:= .refl _,fA:= .refl _
  bZ:=λb o h=>by
   have D:=hk.bZ b o h
   grind
  fG:=λ_ _ h=> .inl h
  os:=hp.os,tape:=hp.tape,output:=hp.output,size:=hp.size
  frame:=λb hb _=>Bm b hb
  YA:=λt k h=>by grind
  wr:=λt k li h=>by grind
  pU:=λ_ _ h=> .inl h
  news:=λj k li h=>by grind
  distinct:=λi j ki kj li lj h=>by grind}
theorem aa0{r:v7}{v v':PV}{u:Value}{uN:dp}{OE tk:J Nat}{OF:Im}{eQ:Loc}{w1:World}(hr:r.v=v')(hn:r.news=[])(hw:r.wr=[])(hf:r.fr=tk)
 (hp:B6 (grow im w (Hi loc aH tk)) jy [] w v uN OE OF eQ w1 u) (N:H7 uN v=aa v'): ∃fZ bK,VR fZ bK r.v u/\Aw im loc aH w r fZ bK w1:=by
 have Bm:=λb hb=>hp.frame b hb λt li k h=>by cases h
 let Ms:=λb=>match OF b with
  |some o=>aa o
  |none=>if(Hi eQ uN (np BU v)).contains b&&YG w.heap.size b then w1.heap[b]? else Ie
 have rJ:uH OF Ms:=λb o h=>by grind
 have GA: ∀b o,Ms b=aa o->w1.heap[b]? =aa o:=by
  intro b o h;simp[Ms]at h;split at h
  ·rename_i o' ho;injection h with h;subst h;exact hp.sr.bZ b _ ho
  grind
 have amY: ∀t,t∈np BU v->Over OF Ms eQ uN w1 t:=by
  intro t ht li I;obtain⟨k,lL,Az⟩:=hp.sr.eK t li I;refine⟨k,lL,Az,λhs=>?_⟩;have Q0:w.heap.size<=li.eK:=by
   rcases hp.own t li k I lL hs with h|⟨u,lu,ku,h,_⟩
   ·exact h
   cases h
  simp only[Ms];split
  ·grind
  rw[Do]
  simp[];exact⟨by simpa using Hj.2 ⟨t,li,k,ht,I,lL,hs,rfl⟩,Q0⟩
 refine⟨Ms,loc,by rw[hr];exact aaY rJ amY hp.vr N,?_⟩;exact {
  kx:=(QO im w _).trans (hp.kx.trans rJ),fA:= .refl _
  bZ:=GA
  fG:=λb o h=>by
   simp[Ms]at h;split at h
   ·rename_i o' ho
    injection h with h;subst h;rcases hp.fG b _ ho with D|D|⟨t,li,k,D,_⟩
    ·rcases aaW D with S|S
     ·exact .inl S
     obtain⟨t,li,k,ht,I,CK,hs,hb⟩:=Hj.1 S
     exact .inr (.inr ⟨t,li,k,by rw[hf];exact xd.2 ht,I,CK,hs,hb⟩)
    ·exact .inr (.inl D)
    cases D
   simp_all
  os:=hp.os,tape:=hp.tape,output:=hp.output,size:=hp.size
  frame:=λb hb _=>Bm b hb
  YA:=λt k h=>by grind
  wr:=λt k li h=>by grind
  pU:=λ_ _ h=> .inl h
  news:=λj k li h=>by grind
  distinct:=λi j ki kj li lj h=>by grind}
theorem abf{r:v7}{v v':PV}{u:Value}{uN:dp}{OE iD:J Nat}{px OF:Im}{eQ:Loc}{w1:World}{news:dp}(hk:nM im loc aH w r)(hr:r.v=v')(hn:r.news=news)(hw:r.wr=[])
 (hp:B6 px jy [] w v uN OE OF eQ w1 u) (N:H8 uN OE (hl aH) [] v=aa (v',news,iD)): ∃fZ bK,VR fZ bK r.v u/\Aw im loc aH w r fZ bK w1:=by
 have Bm:=λb hb=>hp.frame b hb λt li k h=>by cases h
 obtain⟨SW,ts,D,S⟩:=aaZ (λt li I=>hp.sr.eK t li I) hp.vr N
 let zw:=λt=>if t<(hl aH)then loc t else match SW[t-(hl aH)]? with
  |some li=>aa li
  |none=>loc t
 have QG: ∀(j:Nat) (li:LI),SW[j]? =aa li->zw (hl aH+j)=aa li:=by
  grind
 have rJ:rD loc zw:=by
  intro t li I;simp[zw];split
  ·exact I
  rename_i iY
  split
  ·rename_i l2 SA
   have hj:=(Sw.1 SA).1;have:=hk.fresh (t-(hl aH)) (by rw[hn,<-D.QQ];exact hj);simp_all
  exact I
 have Wj: ∀(j:Nat) (k:pT),news[j]? =aa k-> ∃li,SW[j]? =aa li:=by intro j k hj;have:=(Sw.1 hj).1;exact⟨_,NE (by rw[D.QQ];exact this)⟩
 have Oi: ∀(j:Nat) (k:pT),news[j]? =aa k->k.cu=Pd-> ∃t,ts[j]? =aa (aa t):=by
  intro j k hj hs;have iY:=(Sw.1 hj).1;cases hg:ts[j]? with
  |none=>have:=List.getElem?_eq_none_iff.1 hg;have:=D.Sr;omega
  |some x=>
   cases x with
   |some t=>simp
   |none=>rw[D.Ue j k hj hg]at hs;cases hs
 refine⟨im,zw,by grind,?_⟩;exact {
  kx:= .refl _,fA:=rJ
  bZ:=λb o h=>by
   have D:=hk.bZ b o h
   grind
  fG:=λ_ _ h=> .inl h
  os:=hp.os,tape:=hp.tape,output:=hp.output,size:=hp.size
  frame:=λb hb _=>Bm b hb
  YA:=λt k h=>by grind
  wr:=λt k li h=>by grind
  pU:=λt li h=>by
   simp[zw]at h;split at h
   ·exact .inl h
   rename_i iY
   split at h
   ·rename_i l2 SA
    have hj:=(Sw.1 SA).1;exact .inr ⟨by omega,by rw[hn,<-D.QQ];omega⟩
   exact .inl h
  news:=JJ λj k hj=>by
   rw[hn]at hj;obtain⟨li,I⟩:=Wj j k hj;obtain⟨⟨e,rows,rfl⟩,Az⟩:=D.br j k li hj I;refine⟨li,QG j li I,Az,λhs=>?_⟩;obtain⟨t,ht⟩:=Oi j _ hj hs;obtain⟨a1,a2,a3,_,_⟩:=D.own j _ li t hj I ht;have Q0:w.heap.size<=li.eK:=by
    rcases hp.own t li _ a1 a2 hs with h|⟨u,lu,ku,h,_⟩
    ·exact h
    cases h
   refine⟨?_,.inl Q0⟩;cases hb:im li.eK with
   |none=>rfl
   |some o=>have:=(SH.1 (hk.bZ _ _ hb)).1;omega
  distinct:=λi j ki kj li lj yD Y8 KS YP asi asj SU=>by rw[hn]at yD Y8;obtain⟨l1,Pf⟩:=Wj i ki yD;obtain⟨l2,SA⟩:=Wj j kj Y8;have e1:=QG i l1 Pf;have e2:=QG j l2 SA;rw[asi]at e1;rw[asj]at e2;injection e1 with e1;injection e2 with e2;subst e1 e2;obtain⟨t1,ht1⟩:=Oi i ki yD KS;obtain⟨t2,ht2⟩:=Oi j kj Y8 YP;obtain⟨a1,a2,_⟩:=D.own i ki li t1 yD Pf ht1;obtain⟨b1,b2,_⟩:=D.own j kj lj t2 Y8 SA ht2;have:=hp.sr.mE t1 t2 li lj ki kj a1 b1 a2 b2 KS YP SU;subst this;exact D.inj i j t1 ht1 ht2}
theorem EH (Mo:JS P rec) {own:Bool} {f:FuncId} {wa:J PV} {tk:J Nat} {r:v7} {us:J Value}
 (h:(match rec (.func f wa [] []) with
  |some (.func v s1 z1)=>
   if own then match H8 s1 z1 (hl aH) [] v with
    |some (v',n2,_)=>aa {v:=v',news:=n2,rd:=tk}
    |none=>Ie
   else if v.tg then aa {v,rd:=tk}
   else match H7 s1 v with
    |some v'=>aa {v:=v',rd:=tk,fr:=tk}
    |none=>Ie
  |_=>Ie)=aa r) (ha:gW (grow im w (Hi loc aH tk)) jy wa us) (hk:nM im loc aH w r):
 Bo P f ⟨us⟩ w fun u w'=> ∃fZ bK,VR fZ bK r.v u/\Aw im loc aH w r fZ bK w':=by
 cases hr:rec (.func f wa [] []) with
 |none=>grind
 |some o=>
  rw [hr] at h;cases o with
  |code e st=>cases h
  |func v s1 z1=>
   refine (Mo f wa [] [] v s1 z1 hr _ jy w us (SR.empty (aas hk.bZ)) ha).mono fun u w' hq=>?_
   grind [IR,abf,hn2,aa0]
theorem hAl(Mo:JS P rec)(Ik:FQ P W7){own:Bool}{f:FuncId}{args:J PV}{fz:J Nat}{r:v7}{us:J Value}
 (h:iJ W7 rec own f args aH fz=aa r) (ha:gW im loc args us) (hk:nM im loc aH w r):
 Bo P f ⟨us⟩ w λu w'=> ∃fZ bK,VR fZ bK r.v u/\Aw im loc aH w r fZ bK w':=by
 have asl: ∀(rd:J Nat),(∀b o,im b=aa o->w.heap[b]? =aa o)-> ∀b o,grow im w (Hi loc aH rd) b=aa o->w.heap[b]? =aa o:=λrd h=>aas h
 have Vd: ∀(wa:J PV),L9 aH (JE aH deep) args=aa wa->(∀t,t∈gJ (kq aH deep) args-> ∀li,loc t=aa li-> ∃k,aH[t]? =aa k/\BR im loc w li k)->(∀b o,im b=aa o->w.heap[b]? =aa o)->
  gW (grow im w (Hi loc aH (gJ (kq aH deep) args))) jy wa us:=by
  intro wa X asm GA;refine EG (w:=w) (QO _ _ _) (λt=>aau (QO _ _ _) deep t) (λt ht li I=>?_) ha X;obtain⟨k,lL,Az⟩:=asm t ht li I;exact⟨k,lL,Az,λhs=>ae0 GA (Hj.2 ⟨t,li,k,ht,I,lL,hs,rfl⟩)⟩
 unfold iJ at h;cases X:L9 aH (JE aH deep) args with
 |none=>grind
 |some wa=>
  rw[X]at h;cases hF:W7 f with
  |none=>rw[hF]at h;exact EH Mo h (Vd wa X (λt ht=>hk.tok t (.inl (by grind))) hk.bZ) hk
  |some en=>
   rw[hF]at h;cases en with
   |p7 W6 p=>
    dsimp only at h;obtain⟨rfl,Uf⟩:=Ik.1 f W6 p hF;cases S3:p wa with
    |none=>grind
    |some q=>
     obtain⟨v,news⟩:=q;rw[S3]at h;dsimp only at h;cases hio:H8 news [] (hl aH) [] v with
     |none=>grind
     |some q2=>
      rw[hio]at h;simp[]at h;subst h;refine(Uf wa v news S3 _ w us (SR.empty (asl _ hk.bZ)) (Vd wa X (λt ht=>hk.tok t (.inl ht)) hk.bZ)).mono λu w' hq=>?_
      grind[abf]
   |code x=>exact EH Mo h (Vd wa X (λt ht=>hk.tok t (.inl (by grind))) hk.bZ) hk
   |OG x=>exact EH Mo h (Vd wa X (λt ht=>hk.tok t (.inl (by grind))) hk.bZ) hk
end
end Go.Vm
/- A call that works on the blocks that its arguments lead to, numbered anew: what it does to the memory. -/
namespace Go.Vm
theorem lN{α:Type}{l:J α}{i:Nat}{x:α}(h:l[i]? =aa x):i<(hl l):=(Sw.1 h).1
theorem JT: ∀{l:J Nat} {t:Nat},t∈xG l↔t∈l
 | [],t=>by simp[xG]
 |a::r,t=>by
  rw[xG];split
  ·rename_i h
   rw[JT];have:=xd.1 h
   grind
  simp[JT]
theorem AB: ∀{l:J Nat},(xG l).Nodup
 | []=>by simp[xG]
 |a::r=>by
  rw[xG];split
  ·exact AB
  rename_i h
  rw[List.nodup_cons];exact⟨λhm=>h (xd.2 (JT.1 hm)),AB⟩
theorem abM: ∀{a b:dp},CO a b=Pd-> ∀(i:Nat) (x:pT),a[i]? =aa x-> ∃y,b[i]? =aa y/\x.cu=y.cu
 | [],_,_,i,x,h=>by simp at h
 |c::r,d::q,hf,i,x,h=>by
  simp[CO,]at hf;cases i with
  |zero=>
   grind
  |succ i=>simpa using abM hf.2 i x (by simpa using h)
 |_::_,[],hf,_,_,_=>by cases hf
theorem adR{g:Nat->Nat}: ∀{tk:J Nat} {s:dp} {t:Nat} {k:pT},(t,k)∈wk g tk s↔ ∃(i:Nat) (b:pT),tk[i]? =aa t/\s[i]? =aa b/\k=GG g b
 | [],s,t,k=>by simp[wk]
 |a::r,[],t,k=>by simp[wk]
 |a::r,b::s,t,k=>by
  simp only[wk,D5,adR];constructor
  ·rintro(⟨rfl,rfl⟩|⟨i,c,D,S,h3⟩)
   ·exact⟨0,b,rfl,rfl,rfl⟩
   exact⟨i+1,c,by simpa using D,by simpa using S,h3⟩
  grind
theorem ae1{g:Nat->Nat}: ∀(s:dp) (i:Nat),(Ib g s)[i]? =(s[i]?).map (GG g)
 | [],i=>by simp[Ib]
 |b::r,0=>by simp[Ib]
 |b::r,i+1=>by simpa[Ib]using ae1 r i
theorem aet{g:Nat->Nat}: ∀(s:dp),(Ib g s).length=hl s
 | []=>rfl
 |b::r=>by simp[Ib,aet r]
section
variable {P : Program} {W7 : s9} {rec : Task -> O Out} {im : Im} {loc : Loc} {aH : dp} {w : World} {tk : J Nat} {g : Nat -> Nat} {l1 l2 : Loc}
mutual
theorem VR.GI: ∀{x:PV} {v:Value},VR im l1 x v->(∀u,u∈np BU x-> ∀li,l1 u=aa li->l2 (g u)=aa li)->VR im l2 (JF g x) v
 |_,_,.undef v,_=> .undef v
 |_,_,.oI,_=> .oI
 |_,_,.int k n,_=> .int k n
 |_,_,.bool b,_=> .bool b
 |_,_,.str s,_=> .str s
 |_,_,.agg cs vs h,hg=> .agg _ vs (gW.GI h (λu hu=>hg u (by simpa[np]using hu)))
 |_,_,.cT cs vs h,hg=> .cT _ vs (gW.GI h (λu hu=>hg u (by simpa[np]using hu)))
 |_,_,.sl aT yg rows a cap hc hk h,_=> .sl aT yg rows a cap hc hk h
 |_,_,.own t aT off len cap ex li a eL D S h3 h4 h5 h6 h7,hg=> .own _ aT off len cap ex li a eL (hg _ (by simp[np]) _ D) S h3 h4 h5 h6 h7
 |_,_,.ptr t aT row off li D S h3,hg=> .ptr _ aT row off li (hg _ (by simp[np]) _ D) S h3
 |_,_,.cj cs off b o vs h hv,hg=> .cj _ off b o vs (gW.GI h (λu hu=>hg u (by simpa[np]using hu))) hv
 |_,_,.mp t li h,hg=> .mp _ li (hg _ (by simp[np]) _ h)
 |_,_,.fY fn a b as bs ha hb,hg=> .fY fn _ _ as bs (gW.GI ha (λu hu=>hg u (by simp[np,hu]))) (gW.GI hb (λu hu=>hg u (by simp[np,hu])))
 |_,_,.fC,_=> .fC
theorem gW.GI: ∀{x:J PV} {v:J Value},gW im l1 x v->(∀u,u∈gJ BU x-> ∀li,l1 u=aa li->l2 (g u)=aa li)->gW im l2 (D4 g x) v
 |_,_,.nil,_=> .nil
 |_,_,.cons x v xs vs h hs,hg=> .cons _ v _ vs (VR.GI h (λu hu=>hg u (by simp[gJ,hu]))) (gW.GI hs (λu hu=>hg u (by simp[gJ,hu])))
end
theorem VR.JF{x:PV}{v:Value}(hg: ∀u,u∈np BU x-> ∀li,l1 u=aa li->l2 (g u)=aa li)(h:VR im l1 x v):VR im l2 (Vm.JF g x) v:=h.GI hg
theorem gW.JF{x:J PV}{v:J Value}(hg: ∀u,u∈gJ BU x-> ∀li,l1 u=aa li->l2 (g u)=aa li)(h:gW im l1 x v):gW im l2 (D4 g x) v:=h.GI hg
theorem aez: ∀(x:J PV),(D4 g x).length=hl x
 | []=>rfl
 |x::xs=>by simp[D4,aez xs]
theorem BR.JF{li:LI}{k:pT}(hg: ∀u,u∈yH k-> ∀li,l1 u=aa li->l2 (g u)=aa li)(h:BR im l1 w li k):BR im l2 w li (GG g k):=by
 cases k with
 |arr e rows=>exact h
 |box cs=>obtain⟨a1,a2,a3,vs,el,a4,a5,a6⟩:=h;exact⟨by rw[aez];exact a1,a2,a3,vs,el,a4,a5,a6.JF hg⟩
 |map es=>exact h
 |dead=>trivial
theorem EI(k:pT):(GG g k).cu=k.cu:=by cases k<;>rfl
theorem h1c(Mo:JS P rec){f:FuncId}{args:J PV}{fz:J Nat}{r:v7}{us:J Value}
 (h:Bi rec f args aH fz=aa r) (ha:gW im loc args us) (hk:nM im loc aH w r):
 Bo P f ⟨us⟩ w λu w'=> ∃fZ bK,VR fZ bK r.v u/\Aw im loc aH w r fZ bK w':=by
 unfold Bi at h;have OO:(xG (gJ (kq aH deep) args)).Nodup:=AB;generalize ON:xG (gJ (kq aH deep) args)=tk at h OO;split at h
 ·cases h
 rename_i a s0 Mv;unfold Ub at Mv;split at Mv
 case isFalse=>cases Mv
 rename_i asn;simp only[SK,SL]at asn;split at Mv
 case h_2=>cases Mv
 rename_i a' LB Ee S8;simp only[IR,EE]at Mv;obtain⟨rfl,rfl⟩:=Mv;split at h
 case h_2=>cases h
 rename_i v s hr;unfold Mb at h;split at h
 case isFalse=>cases h
 rename_i RY;injection h with h;obtain⟨UZ,OP⟩:=JG S8;have Qb:=abM RY;have rJ:(hl tk)<=(hl s):=by
  rcases h2 (hl tk)with h0|h0
  ·omega
  obtain⟨y,hy,_⟩:=Qb (hl tk-1) (LB[hl tk-1]'(by omega)) (NE _)
  grind
 let K9:Loc:=λu=>match tk[u]? with|some t=>loc t|none=>Ie
 have OQ:Ren tk loc K9:=λu t hu=>by grind
 have hC: ∀u li,K9 u=aa li-> ∃t,tk[u]? =aa t/\loc t=aa li:=by
  grind
 have TO: ∀t k,(t,k)∈r.wr↔ ∃(i:Nat) (b:pT),tk[i]? =aa t/\s[i]? =aa b/\k=GG (oT tk (hl aH)) b:=λt k=>by rw[<-h];exact adR
 have Js: ∀u t,tk[u]? =aa t->(t∈r.rd\/ ∃b,(t,b)∈r.wr):=λu t ht=>by have:=lN ht;exact .inr ⟨_,(TO t _).2 ⟨u,_,ht,NE (by omega),rfl⟩⟩
 have Bn: ∀(u t:Nat) (k:pT),tk[u]? =aa t->LB[u]? =aa k-> ∃k0:pT,aH[t]? =aa k0/\k.cu=k0.cu:=λu t k ht hs=>by
  grind[aaw]
 have hSR:SR im K9 LB [] w:={
  bZ:=hk.bZ
  eK:=λu li I=>by
   obtain⟨t,D,S⟩:=hC u li I;obtain⟨k,lL,Az⟩:=hk.tok t (Js u t D) li S
   grind[aav]
  mE:=λt u li lj k k' I sH hs Eh LL asq hb=>by
   obtain⟨a1,D,S⟩:=hC t li I;obtain⟨a2,h3,h4⟩:=hC u lj sH;obtain⟨k0,g1,g2⟩:=Bn t a1 k D hs;obtain⟨TP,K5,IJ⟩:=Bn u a2 k' h3 Eh;have:=hk.mE a1 a2 li lj k0 TP (Js t a1 D) (Js u a2 h3) S h4 g1 K5 (by rw[<-g2];exact LL) (by rw[<-IJ];exact asq) hb;subst this;have pw:=List.pairwise_iff_getElem.1 OO
   grind
  free:=λt li k I hs LL _=>by obtain⟨a1,D,S⟩:=hC t li I;obtain⟨k0,g1,g2⟩:=Bn t a1 k D hs;have iY:=lN D;exact hk.free a1 _ ((TO a1 _).2 ⟨t,_,D,NE (by omega),rfl⟩) li k0 S g1 (by grind)}
 refine(Mo f a' LB [] v s [] hr im K9 w us hSR (Av OQ ha Ee)).mono λu w' ⟨fZ,SX,hf⟩=>?_
 let bK:=λt=>match loc t with
  |some li=>aa li
  |none=>if(hl aH)<=t/\t-(hl aH)<(hl r.news)then SX (t-(hl aH)+hl tk)else Ie
 have am2:rD loc bK:=λt li I=>by grind
 have QH:(lM (hl tk) v s=Pd/\r.news=[])\/(lM (hl tk) v s=EC/\r.news=Ib (oT tk (hl aH)) (s.drop (hl tk))):=by
  rw[<-h];cases YK:lM (hl tk) v s with
  |true=>exact .inl ⟨rfl,by simp⟩
  |false=>exact .inr ⟨rfl,by simp⟩
 have am3:lM (hl tk) v s=EC->hl r.news=hl s-(hl tk):=λD=>by
  rcases QH with⟨S,_⟩|⟨_,S⟩
  ·rw[D]at S;cases S
  rw[S];simp[aet]
 have asr: ∀u li,SX u=aa li->u<(hl s):=λu li I=>let ⟨k,lL,_⟩:=hf.sr.eK u li I;lN lL
 have Oj: ∀j li,bK (hl aH+j)=aa li->j<hl r.news->SX (hl tk+j)=aa li:=λj li I hj=>by simp only[bK,hk.fresh j hj]at I;rw[Do ⟨by omega,by omega⟩]at I;rw[show(hl aH)+j-(hl aH)+hl tk=hl tk+j by omega]at I;exact I
 have hg: ∀u,(u<hl tk\/lM (hl tk) v s=EC)-> ∀li,SX u=aa li->bK (oT tk (hl aH) u)=aa li:=by
  intro u S' li I;unfold oT;split
  ·rename_i t ht
   rcases hf.uB u li I with D|D
   ·obtain⟨t',S,h3⟩:=hC u li D
    rw[ht]at S;injection S with S;subst S;exact am2 _ _ h3
   have:=lN ht;omega
  rename_i hn
  have hu:(hl tk)<=u:=by simpa using hn
  rcases S' with S'|S'
  ·omega
  have iY:=asr u li I;have QH:=am3 S';simp (disch:=omega) only[bK,hk.fresh];rw[Do ⟨by omega,by omega⟩,show(hl aH)+(u-(hl tk))-(hl aH)+hl tk=u by omega];exact I
 have YK: ∀u,lM (hl tk) v s=Pd->(u∈np BU v\/ ∃i b,i<hl tk/\s[i]? =aa b/\u∈yH b)->u<(hl tk):=λu D S=>by
  unfold lM at D;have h3:=SK.1 D u (by
   rcases S with S|⟨i,b,g1,g2,g3⟩
   ·simp[S]
   refine Sv.2 (.inr (tA.2 ⟨b,?_,g3⟩))
   exact Pg (i:=i) (by rw[List.getElem?_take];simp[g1,g2]))
  simpa using h3
 have Tl: ∀u,u∈np BU v-> ∀li,SX u=aa li->bK (oT tk (hl aH) u)=aa li:=λu hu=>hg u (by
  cases hq:lM (hl tk) v s with
  |true=>exact .inl (YK u hq (.inl hu))
  |false=>exact .inr rfl)
 have hgb: ∀i b,i<hl tk->s[i]? =aa b-> ∀u,u∈yH b-> ∀li,SX u=aa li->bK (oT tk (hl aH) u)=aa li:=λi b N hb u hu=>hg u (by
  cases hq:lM (hl tk) v s with
  |true=>exact .inl (YK u hq (.inr ⟨i,b,N,hb,hu⟩))
  |false=>exact .inr rfl)
 have KA: ∀u t li,tk[u]? =aa t->loc t=aa li->SX u=aa li:=λu t li ht I=>hf.fA u li (by simp only[K9,ht];exact I)
 refine⟨fZ,bK,by rw[<-h];exact hf.vr.JF Tl,?_⟩;have Ol: ∀(j:Nat) (k:pT),r.news[j]? =aa k-> ∃b,s[hl tk+j]? =aa b/\k=GG (oT tk (hl aH)) b:=λj k hj=>by
  rcases QH with⟨_,h0⟩|⟨_,h0⟩
  ·rw[h0]at hj;simp at hj
  rw[h0]at hj;simp only[ae1,hi,If]at hj;obtain⟨b,D,S⟩:=hj;exact⟨b,D,S.symm⟩
 have ae4: ∀t li,SX t=aa li->hl tk<=t-> ∀k,s[t]? =aa k->k.cu=Pd->w.heap.size<=li.eK:=by
  intro t li I ht k hs LL;rcases hf.own t li k I hs LL with D|⟨u,lu,ku,D,S,h3,h4⟩
  ·exact D
  exfalso
  obtain⟨a1,g1,g2⟩:=hC u lu D;obtain⟨y,y1,y2⟩:=Qb u ku S;have:=hf.sr.mE u t lu li y k (KA u a1 lu g1 g2) I y1 hs (by rw[<-y2];exact h3) LL h4;subst this;have:=lN g1;omega
 exact {
  kx:=hf.kx,fA:=am2
  bZ:=hf.sr.bZ
  fG:=λb o hb=>by
   rcases hf.fG b o hb with D|D|⟨t,li,k,D,S,h3,h4⟩
   ·exact .inl D
   ·exact .inr (.inl D)
   exfalso
   obtain⟨a1,g1,g2⟩:=hC t li D;obtain⟨y,y1,y2⟩:=Qb t k S;have:=hf.sr.free t li y (KA t a1 li g1 g2) y1 (by rw[<-y2];exact h3) rfl;rw[h4,hb]at this;cases this
  os:=hf.os,tape:=hf.tape,output:=hf.output,size:=hf.size
  frame:=λb hb hh=>hf.frame b hb λt li k I hs LL=>by obtain⟨a1,g1,g2⟩:=hC t li I;obtain⟨k0,e1,e2⟩:=Bn t a1 k g1 hs;have iY:=lN g1;exact hh a1 _ li k0 ((TO a1 _).2 ⟨t,_,g1,NE (by omega),rfl⟩) g2 e1 (by rw[<-e2];exact LL)
  YA:=λt k hm LL=>by obtain⟨i,b,g1,g2,rfl⟩:=(TO t k).1 hm;rw[EI]at LL;have iY:=lN g1;have e:=NE (l:=LB) (i:=i) (by omega);obtain⟨y,y1,y2⟩:=Qb i _ e;rw[g2]at y1;injection y1 with y1;subst y1;obtain⟨k0,e1,e2⟩:=Bn i t _ g1 e;exact⟨k0,e1,by rw[<-e2,y2];exact LL⟩
  wr:=λt k li hm I=>by obtain⟨i,b,g1,g2,rfl⟩:=(TO t k).1 hm;obtain⟨k',lL,Az⟩:=hf.sr.eK i li (KA i t li g1 I);rw[g2]at lL;injection lL with lL;subst lL;exact Az.JF (hgb i b (lN g1) g2)
  pU:=λt li I=>by
   simp only[bK]at I;cases UZ:loc t with
   |some lj=>rw[UZ]at I;exact .inl I
   |none=>
    rw[UZ]at I;dsimp only at I;split at I
    ·rename_i hn
     exact .inr ⟨hn.1,by omega⟩
    cases I
  news:=λj k li hj I=>by
   have Vb:j<(hl r.news):=lN hj;obtain⟨b,hb,rfl⟩:=Ol j k hj;have UZ:=Oj j li I Vb;obtain⟨k',lL,Az⟩:=hf.sr.eK _ li UZ;rw[hb]at lL;injection lL with lL;subst lL;have hq:lM (hl tk) v s=EC:=by
    rcases QH with⟨_,h0⟩|⟨h0,_⟩
    ·rw[h0]at Vb;simp at Vb
    exact h0
   refine⟨Az.JF (λu _=>hg u (.inr hq)),λLL=>?_⟩;rw[EI]at LL;exact⟨hf.sr.free _ li b UZ hb LL rfl,.inl (ae4 _ li UZ (by omega) b hb LL)⟩
  distinct:=λi j ki kj li lj N hj KS YP Wj hlj hb=>by obtain⟨b1,e1,rfl⟩:=Ol i ki N;obtain⟨b2,e2,rfl⟩:=Ol j kj hj;rw[EI]at KS YP;have D:=Oj i li Wj (lN N);have S:=Oj j lj hlj (lN hj);have:=hf.sr.mE _ _ li lj b1 b2 D S e1 e2 KS YP hb;omega}
end
end Go.Vm
/- A region's run in the order of the text, step by step; what a block holds when aeX of its operations are done. -/
namespace Go.Vm
structure EJ(W7:s9)(rec:Task->Option Out)(ops:List dD)(Yz:Nat->St)(Sx:Nat->Option XR):Prop where
 steps: ∀(i:Nat) (o:dD),ops[i]? =aa o->
  (wanted o.guard (Yz i).env=aa Pd/\ ∃x,FJ W7 rec (Yz i).env (Yz i).aH (Yz i).fz o.op=aa x/\x.ok (Yz i).fz=Pd/\Sx i=aa x/\Yz (i+1)=x.next o.dst (Yz i))\/
  (wanted o.guard (Yz i).env=aa EC/\Sx i=Ie/\Yz (i+1)={Yz i with env:=oU o.dst .oI (Yz i).env})
def GC(x:O XR)(s:St):Tr:=
 match x with
 |some x=>x.tr (hl s.aH)
 |none=>Tr.idle
def GJ(Yz:Nat->St)(Sx:Nat->O XR)(n:Nat):J Tr:=(List.range n).map λi=>GC (Sx i) (Yz i)
theorem h1v(Yz:Nat->St)(Sx:Nat->O XR)(n:Nat):GJ Yz Sx (n+1)=GC (Sx 0) (Yz 0)::GJ (λi=>Yz (i+1)) (λi=>Sx (i+1)) n:=by unfold GJ;rw[List.range_succ_eq_map];simp
theorem JU {W7:s9} {rec:Task->O Out}: ∀(ops:J dD) (st:St) (tr:J Tr) (rT:St) (YQ:J Tr),wb W7 rec ops st tr=aa (rT,YQ)->
 ∃Yz Sx,Yz 0=st/\Yz (hl ops)=rT/\EJ W7 rec ops Yz Sx/\YQ=(GJ Yz Sx (hl ops)).reverse++tr
 | [],st,tr,rT,YQ,h=>by obtain ⟨rfl,rfl⟩:=h;exact ⟨fun _=>st,fun _=>Ie,rfl,rfl,⟨fun i o h=>by simp at h⟩,by simp [GJ]⟩
 |o::l,st,tr,rT,YQ,h=>by
  simp [wb] at h;have mk: ∀(s1:St) (x:O XR) (t1:Tr),GC x st=t1->wb W7 rec l s1 (t1::tr)=aa (rT,YQ)->
   ((wanted o.guard st.env=aa Pd/\ ∃y,FJ W7 rec st.env st.aH st.fz o.op=aa y/\y.ok st.fz=Pd/\x=aa y/\s1=y.next o.dst st)\/
    (wanted o.guard st.env=aa EC/\x=Ie/\s1={st with env:=oU o.dst .oI st.env}))->
   ∃Yz Sx,Yz 0=st/\Yz (o::l).length=rT/\EJ W7 rec (o::l) Yz Sx/\YQ=(GJ Yz Sx (o::l).length).reverse++tr:=by
   intro s1 x t1 ht he hs;obtain ⟨Yz,Sx,h0,hn,dG,htr⟩:=JU l s1 (t1::tr) rT YQ he;refine ⟨fun i=>match i with|0=>st|i+1=>Yz i,fun i=>match i with|0=>x|i+1=>Sx i,rfl,hn,⟨fun i o' ho=>?_⟩,?_⟩
   · cases i with
     |zero=>
      simp at ho;subst ho;rcases hs with ⟨a,y,b,c,d,e⟩|⟨a,b,c⟩
      · exact .inl ⟨a,y,b,c,d,by rw [<- e];exact h0⟩
      exact .inr ⟨a,b,by rw [<- c];exact h0⟩
     |succ i=>exact dG.steps i o' (by simpa using ho)
   grind [YF,h1v]
  cases hw:wanted o.guard st.env with
  |none=>grind
  |some b=>
   rw [hw] at h;cases b with
   |false=>exact mk _ Ie _ rfl h (.inr ⟨hw,rfl,rfl⟩)
   |true=>
    cases X:FJ W7 rec st.env st.aH st.fz o.op with
    |none=>grind
    |some x=>
     rw [X] at h;dsimp only at h;split at h
     · rename_i GA
       exact mk _ (aa x) _ rfl h (.inl ⟨hw,x,X,GA,rfl,rfl⟩)
     cases h
theorem lO: ∀(wr:J (Nat×pT)) (s:dp),(mO wr s).length=hl s
 | [],s=>rfl
 |(t,b)::r,s=>by rw[mO,lO r];simp
theorem Bp: ∀(wr:J (Nat×pT)) (s:dp) (t:Nat),(∀k,(t,k)∉wr)->(mO wr s)[t]? =s[t]?
 | [],s,t,_=>rfl
 |(u,b)::r,s,t,h=>by
  rw[mO,Bp r _ t (λk hk=>h k (by simp[hk]))]
  grind
theorem aeC: ∀(wr:J (Nat×pT)) (s:dp),CP wr=Pd-> ∀{t:Nat} {k:pT},(t,k)∈wr->t<hl s->(mO wr s)[t]? =aa k
 |(u,b)::r,s,hn,t,k,hm,iY=>by
  simp only[CP,PP,SK,]at hn;rw[mO];rcases D5.1 hm with h|h
  ·injection h with D S
   subst D S;rw[Bp r _ t λk' hk=>by simpa using hn.1 (t,k') hk];simp[iY]
  exact aeC r _ hn.2 h (by simpa using iY)
section
variable {W7 : s9} {rec : Task -> O Out} {ops : J dD} {Yz : Nat -> St} {Sx : Nat -> O XR}
def W(Sx:Nat->O XR)(i t:Nat):Prop:=
 match Sx i with
 |some (.loc r)=> ∃k,(t,k)∈r.wr
 |some (.shr ..)=>True
 |none=>False
def FR(Sx:Nat->O XR)(i t:Nat):Prop:=
 match Sx i with
 |some (.loc r)=>t∈r.fr
 |some (.shr _ _ z)=>t∈z
 |none=>False
def Ip(Yz:Nat->St)(Sx:Nat->O XR)(n:Nat)(done:Nat->Prop)(t:Nat)(k:pT):Prop:=
 ∃m,m<=n/\(∀i,i<n->W Sx i t->(done i↔i<m))/\(∀c,c<n->(Yz c).aH.length<=t->t<(Yz (c+1)).aH.length->c<m)/\(Yz m).aH[t]? =aa k
theorem aeH{e:Env}{aH:dp}{fz:J Nat}{op:qd}{v:PV}{s:dp}{z:J Nat}(h:FJ W7 rec e aH fz op=aa (.shr v s z)):(hl aH)<=hl s/\ ∀t,t∈fz->t∈z:=by
 have key: ∀{f:FuncId} {args:J PV},kr rec f args aH fz=aa (.shr v s z)->hl aH<=hl s/\ ∀t,t∈fz->t∈z:=by
  intro f args h;unfold kr at h;split at h
  ·split at h
   ·rename_i hc
    simp[PP,g',SK]at hc;simp[IR,]at h;obtain⟨rfl,rfl,rfl⟩:=h;exact⟨hc.1,λt ht=>xd.1 (hc.2 t ht)⟩
   cases h
  cases h
 cases op with
 |call m f args=>
  cases m with
  |Zh=>simp[FJ]at h
  |own=>simp[FJ]at h
  |shr=>exact key h
  |fp=>simp[FJ]at h
 |D3 x args=>
  simp[FJ]at h;split at h
  ·split at h
   ·exact key h
   simp at h
  cases h
 |_=>simp[FJ]at h
theorem EJ.ai'(hr:EJ W7 rec ops Yz Sx){i:Nat}(N:i<hl ops):(Yz i).aH.length<=(Yz (i+1)).aH.length:=by
 rcases hr.steps i _ (NE N)with⟨_,x,X,_,_,hn⟩|⟨_,_,hn⟩
 ·rw[hn]
  cases x with
  |loc r=>simp[XR.next,Au,lO]
  |shr v s z=>exact(aeH X).1
 grind
theorem EJ.lP(hr:EJ W7 rec ops Yz Sx){i j:Nat}(rE:i<=j)(hj:j<=hl ops):(Yz i).aH.length<=(Yz j).aH.length:=by
 induction j with
 |zero=>grind
 |succ j ih=>
  rcases Ih rE with h|h
  ·grind
  exact Ss (ih (by omega) (by omega)) (hr.ai' (by omega))
theorem EJ.same(hr:EJ W7 rec ops Yz Sx){i t:Nat}(N:i<hl ops)(hw: ¬W Sx i t)(ht:t<(Yz i).aH.length):(Yz (i+1)).aH[t]? =(Yz i).aH[t]?:=by
 rcases hr.steps i _ (NE N)with⟨_,x,X,_,hX,hn⟩|⟨_,_,hn⟩
 ·rw[hn]
  cases x with
  |loc r=>simp[XR.next,Au];rw[Ii (by rw[lO];exact ht)];exact Bp _ _ _ λk hk=>hw (by unfold W;grind)
  |shr v s z=>exact absurd (by unfold W;rw[hX];trivial) hw
 rw[hn]
theorem EJ.FT(hr:EJ W7 rec ops Yz Sx){m m' t:Nat}(hm:m<=m')(Iq:m'<=hl ops)(hw: ∀i,m<=i->i<m'-> ¬W Sx i t)(ht:t<(Yz m).aH.length):(Yz m').aH[t]? =(Yz m).aH[t]?:=by
 induction m' with
 |zero=>grind
 |succ j ih=>
  rcases Ih hm with h|h
  ·subst h;rfl
  rw[hr.same (by omega) (hw j (by omega) (by omega)) (Nat.lt_of_lt_of_le ht (hr.lP (by omega) (by omega)))]
  grind
theorem dE{α:Type}{l:J α}{i:Nat}{x:α}(h:l[i]? =aa x):i<(hl l):=(Sw.1 h).1
theorem Ip.unique(hr:EJ W7 rec ops Yz Sx){done:Nat->Prop}{t:Nat}{k k':pT}(h:Ip Yz Sx (hl ops) done t k)(h':Ip Yz Sx (hl ops) done t k'):k=k':=by
 obtain⟨m,hm,hw,hc,hs⟩:=h;obtain⟨m',Iq,Vx,Lt,Eh⟩:=h';rcases Nat.le_total m m' with h|h
 ·have:=hr.FT h Iq (λi D S hW=>by
   have a:=hw i (by omega) hW;have b:=Vx i (by omega) hW;have:=a.1 (b.2 S);omega) (dE hs)
  grind
 have:=hr.FT h hm (λi D S hW=>by
  have a:=hw i (by omega) hW;have b:=Vx i (by omega) hW;have:=b.1 (a.2 S);omega) (dE Eh)
 grind
theorem EJ.aa6(hr:EJ W7 rec ops Yz Sx){i t:Nat}(N:i<hl ops)(hd:(ops[i]).dst≠aa t):lk t (Yz (i+1)).env=lk t (Yz i).env:=by
 have key: ∀(d:O Nat) (v:PV) (e:Env),d≠aa t->lk t (oU d v e)=lk t e:=by
  intro d v e h;cases d with
  |none=>rfl
  |some s=>simp[oU];rw[yK,EQ (λe=>h (by rw[e]))]
 rcases hr.steps i _ (NE N)with⟨_,x,X,_,hX,hn⟩|⟨_,_,hn⟩
 ·rw[hn]
  cases x with
  |loc r=>exact key _ _ _ hd
  |shr v s z=>exact key _ _ _ hd
 grind
theorem EJ.Vj(hr:EJ W7 rec ops Yz Sx){m m' t:Nat}(hm:m<=m')(Iq:m'<=hl ops)(hd: ∀i (N:i<hl ops),m<=i->i<m'->(ops[i]).dst≠aa t):lk t (Yz m').env=lk t (Yz m).env:=by
 induction m' with
 |zero=>grind
 |succ j ih=>
  rcases Ih hm with h|h
  ·subst h;rfl
  rw[hr.aa6 (by omega) (hd j (by omega) (by omega) (by omega))]
  grind
end
end Go.Vm
