/- The logical machine, part 1: VmDef, VmWp, VmChk, VmRel, VmRen, VmOps1, VmEff, VmOps2, VmOps3, VmOps4, VmOps5, VmOps6, VmOps7, VmOps8, VmOps9, VmEq, VmMap. -/
import GoSem.Dispatch
import Derived.Laws.StructEq
import Derived.Calls
import Derived.Below
import Derived.Laws.CopyRow
import Derived.Deep.AppendSrc
import Derived.Deep.Upon
import Derived.WideKeyRuns
/- Definitions of a logical machine over pure values: what it computes is tied to the model's runs in VmSound. -/
namespace Go.Vm

/-- A pure value. 'undef': nothing is known. 'nul': what a skipped operation leaves. 'sl': a slice that nobody writes to, as its rows. 'own': a slice into a block of the call's own. -/
inductive PV where
  | undef
  | nul
  | int (k : IntKind) (n : Int)
  | bool (b : Bool)
  | str (s : ByteArray)
  | agg (cs : List PV)
  | tup (cs : List PV)
  | sl (esz : Nat) (clip : Bool) (rows : List (List PV))
  | own (t esz off len cap : Nat) (ex : Bool)
  | ptr (t esz row off : Nat)
  | rptr (cells : List PV) (off : Nat)
  | mp (t : Nat)
  | clo (fn : FuncId) (fst cap : List PV)
  | nilf

instance : Inhabited PV := ⟨.undef⟩

abbrev Row := List PV

/-- A block of the call's own. -/
inductive Blk where
  | arr (esz : Nat) (rows : List Row)
  | box (cells : List PV)
  | map (es : List (PV × PV))
  | dead

abbrev Sto := List Blk
abbrev Env := List (Nat × PV)

inductive Opd where
  | t (n : Nat)
  | c (v : PV)

inductive CM where
  | pur | own | shr | fp

inductive XOp where
  | mov (x : Opd)
  | pick (c a b : Opd)
  | bin (op : BinOp) (x y : Opd)
  | binb (neg : Bool) (x y : Opd)
  | eqc (n : Nat) (neg : Bool) (x y : Opd)
  | un (op : UnOp) (x : Opd)
  | conv (k : IntKind) (x : Opd)
  | len (x : Opd)
  | lenc (n : Nat)
  | box (x : Opd)
  | alloc (cells : List PV)
  | build (zero : List PV) (parts : List (Nat × Nat × Opd))
  | mkrow (esz n : Nat) (zero : Row) (parts : List (Nat × Opd))
  | load (agg : Option Nat) (p : Opd)
  | store (sz : Nat) (p v : Opd)
  | nilc (x : Opd)
  | fadr (off : Nat) (p : Opd)
  | fld (agg : Option Nat) (off : Nat) (x : Opd)
  | iadr (esz : Nat) (x i : Opd)
  | iadra (n esz : Nat) (p i : Opd)
  | idx (n esz : Nat) (agg : Option Nat) (x i : Opd)
  | sidx (x i : Opd)
  | slc (esz : Nat) (x : Opd) (lo hi mx : Option Opd)
  | mks (esz : Nat) (zero : Row) (len cap : Opd)
  | mkf (fn : FuncId) (fst cap : List Opd)
  | mkm
  | lookup (n : Option Nat) (zero : PV) (ok : Bool) (m k : Opd)
  | mapu (n : Option Nat) (m k v : Opd)
  | ext (i : Nat) (x : Opd)
  | append (esz : Nat) (x y : Opd)
  | copy (esz : Nat) (x y : Opd)
  | clear (esz : Nat) (zero : Row) (x : Opd)
  | mm (isMax : Bool) (x : Opd) (xs : List Opd)
  | call (m : CM) (f : FuncId) (args : List Opd)
  | callv (x : Opd) (args : List Opd)
  | bad

structure XOper where
  dst : Option Nat
  op : XOp
  guard : Option (Nat × Bool)

inductive XCode where
  | skip
  | region (draw : Option (List Nat)) (ops : List XOper) (keep : List Nat)
  | seq (a b : XCode)
  | cond (c : Opd) (a b : XCode)
  | block (id : Nat) (b : XCode)
  | loop (live : List (Nat × Option Nat)) (b : XCode)
  | exit (id : Nat)
  | ret

inductive RV where
  | tmp (t : Nat)
  | cell (t : Nat) (agg : Option Nat)

structure XFunc where
  nargs : Nat
  code : XCode
  res : List RV

/-- A function of the table: its code, or what it is known to do with pure arguments (its results' slices are new; 'kills': it may write into its first argument's block, which nobody may use behind it). -/
inductive Ent where
  | code (x : XFunc)
  | prim (kills : Bool) (f : List PV → Option (PV × Sto))

abbrev Tab := FuncId → Option Ent

/-- 'kn': so many blocks were there when the function began: those keep their numbers. -/
structure St where
  env : Env
  sto : Sto
  fz : List Nat
  kn : Nat

inductive XExit where
  | normal
  | exit (id : Nat)
  | ret

/-! ### small parts -/

def lk (t : Nat) : Env → PV
  | [] => .undef
  | (s, v) :: r => if Nat.beq s t then v else lk t r

def Opd.ev (e : Env) : Opd → PV
  | .t n => lk n e
  | .c v => v

def PV.isOne : PV → Bool
  | .undef | .nul | .agg _ | .tup _ => false
  | _ => true

def PV.plain : PV → Bool
  | .int _ _ | .bool _ | .str _ => true
  | _ => false

def PV.cells : PV → List PV
  | .agg cs => cs
  | v => [v]

/-- The cells of a value that may lie in memory. -/
def PV.stored (v : PV) : Option (List PV) := if v.cells.all PV.isOne then some v.cells else none
def PV.storedPlain (v : PV) : Option (List PV) := if v.cells.all PV.plain then some v.cells else none

def part (agg : Option Nat) (off : Nat) (cs : List PV) : Option PV :=
  match agg with
  | some s => if off + s ≤ cs.length then some (.agg ((cs.drop off).take s)) else none
  | none => cs[off]?

def splice (off : Nat) (new old : List PV) : List PV := old.take off ++ new ++ old.drop (off + new.length)

def wrapF (k : IntKind) (n : Int) : Int :=
  match k, n with
  | .i64, .ofNat m => if Nat.blt m 9223372036854775808 then .ofNat m else IntKind.wrap .i64 n
  | .i64, .negSucc m => if Nat.blt m 9223372036854775808 then .negSucc m else IntKind.wrap .i64 n
  | .u64, .ofNat m => .ofNat (Nat.mod m 18446744073709551616)
  | k, n => IntKind.wrap k n

def arith (op : BinOp) (k : IntKind) (a b : Int) : Option PV :=
  match op with
  | .add => some (.int k (wrapF k (a + b)))
  | .sub => some (.int k (wrapF k (a - b)))
  | .mul => some (.int k (wrapF k (a * b)))
  | .quo => if b = 0 then none else some (.int k (wrapF k (a.tdiv b)))
  | .rem => if b = 0 then none else some (.int k (a.tmod b))
  | .and => some (.int k (k.wrap (BitVec.ofInt k.bits a &&& BitVec.ofInt k.bits b).toNat))
  | .or => some (.int k (k.wrap (BitVec.ofInt k.bits a ||| BitVec.ofInt k.bits b).toNat))
  | .xor => some (.int k (k.wrap (BitVec.ofInt k.bits a ^^^ BitVec.ofInt k.bits b).toNat))
  | .andNot => some (.int k (k.wrap (BitVec.ofInt k.bits a &&& ~~~ BitVec.ofInt k.bits b).toNat))
  | .eql => some (.bool (a == b))
  | .neq => some (.bool (a != b))
  | .lss => some (.bool (decide (a < b)))
  | .leq => some (.bool (decide (a ≤ b)))
  | .gtr => some (.bool (decide (a > b)))
  | .geq => some (.bool (decide (a ≥ b)))
  | .shl | .shr => none

def shiftI (op : BinOp) (k : IntKind) (a b : Int) : Option PV :=
  if b < 0 then none else
  let n := min b.toNat k.bits
  match op with
  | .shl => some (.int k (k.wrap (a * 2 ^ n)))
  | .shr => some (.int k (a.fdiv (2 ^ n)))
  | _ => none

def kindEq : IntKind → IntKind → Bool
  | .i8, .i8 | .i16, .i16 | .i32, .i32 | .i64, .i64 | .u8, .u8 | .u16, .u16 | .u32, .u32 | .u64, .u64 => true
  | _, _ => false

def binE (op : BinOp) (x y : PV) : Option PV :=
  match x, y with
  | .int k a, .int l b =>
    match op with
    | .shl => shiftI .shl k a b
    | .shr => shiftI .shr k a b
    | op => if kindEq k l then arith op k a b else none
  | _, _ => none

def eqCell : PV → PV → Option Bool
  | .int k a, .int l b => if kindEq k l then some (a == b) else none
  | _, _ => none

def eqCells : List PV → List PV → Option Bool
  | [], [] => some true
  | x :: xs, y :: ys =>
    match eqCell x y with
    | some true => eqCells xs ys
    | some false => some false
    | none => none
  | _, _ => none

def unE (op : UnOp) (x : PV) : Option PV :=
  match op, x with
  | .neg, .int k n => some (.int k (wrapF k (0 - n)))
  | .not, .bool b => some (.bool !b)
  | _, _ => none

/-- The rows of a slice. -/
def rowsOf (sto : Sto) (esz : Nat) : PV → Option (List Row)
  | .sl e _ rows => match rows with
    | [] => some []
    | _ => if Nat.beq e esz then some rows else none
  | .own t e off len _ _ => if Nat.beq e esz then (match sto[t]? with
    | some (.arr _ rows) => some ((rows.drop off).take len)
    | _ => none) else none
  | _ => none

def tokOf : PV → List Nat
  | .own t _ _ _ _ _ => [t]
  | _ => []

/-- What an operation comes to: its value; new blocks; blocks written; blocks read; blocks that nobody may write to from now on. -/
structure Res where
  v : PV
  news : Sto := []
  wr : List (Nat × Blk) := []
  rd : List Nat := []
  fr : List Nat := []

def fillCells : List (Nat × Nat × PV) → List PV → Option (List PV)
  | [], cs => some cs
  | (off, sz, v) :: r, cs =>
    match v.stored with
    | some w => if Nat.beq w.length sz && Nat.ble (off + sz) cs.length then fillCells r (splice off w cs) else none
    | none => none

def fillRows : List (Nat × PV) → List Row → Nat → Option (List Row)
  | [], rows, _ => some rows
  | (i, v) :: r, rows, esz =>
    match v.storedPlain with
    | some w => if Nat.beq w.length esz && Nat.blt i rows.length then fillRows r (rows.set i w) esz else none
    | none => none

def asNat : PV → Option Nat
  | .int _ n => match n with
    | .ofNat m => some m
    | .negSucc _ => none
  | _ => none

def bound (d : Nat) (e : Env) : Option Opd → Option Nat
  | none => some d
  | some x => asNat (x.ev e)

/-- A key: one number, or n of them. -/
def keyOk (n : Option Nat) (k : PV) : Bool :=
  match n, k with
  | none, .int _ _ => true
  | some n, .agg cs => Nat.beq cs.length n
  | _, _ => false

/-- The place of a key. -/
def findIdx (n : Option Nat) (k : PV) : List (PV × PV) → Nat → Option (Option Nat)
  | [], _ => some none
  | (a, _) :: r, i =>
    if keyOk n a then
      match eqCells k.cells a.cells with
      | some true => some (some i)
      | some false => findIdx n k r (i + 1)
      | none => none
    else none

/-- The greatest number of rows that is made here. -/
def most : Nat := 1048576

def loadE (sto : Sto) (agg : Option Nat) : PV → Option Res
  | .ptr t _ row off => match sto[t]? with
    | some (.arr _ rows) => match rows[row]? with
      | some cs => (part agg off cs).map fun v => { v, rd := [t] }
      | none => none
    | some (.box cs) => if Nat.beq row 0 then (part agg off cs).map fun v => { v, rd := [t] } else none
    | _ => none
  | .rptr cs off => (part agg off cs).map fun v => { v }
  | _ => none

def has (l : List Nat) (t : Nat) : Bool := l.any (Nat.beq t)

def storeE (sto : Sto) (fz : List Nat) (sz : Nat) (v : PV) : PV → Option Res
  | .ptr t _ row off => match sto[t]? with
    | some (.arr e rows) => match rows[row]?, v.storedPlain with
      | some cs, some w => if Nat.beq w.length sz && Nat.ble (off + sz) cs.length && !has fz t then
          some { v := .undef, wr := [(t, .arr e (rows.set row (splice off w cs)))] } else none
      | _, _ => none
    | some (.box cs) => match v.stored with
      | some w => if Nat.beq row 0 && Nat.beq w.length sz && Nat.ble (off + sz) cs.length && !has fz t then
          some { v := .undef, wr := [(t, .box (splice off w cs))] } else none
      | none => none
    | _ => none
  | _ => none

def eszOk (esz : Nat) : PV → Bool
  | .sl e _ rows => Nat.beq e esz || rows.isEmpty
  | .own _ e _ _ _ _ => Nat.beq e esz
  | _ => false

def sliceE (x : PV) (lo hi mx : Option Nat) : Option PV :=
  match x with
  | .sl e clip rows =>
    let l := lo.getD 0
    let h := hi.getD rows.length
    match mx with
    | none => if Nat.ble l h && Nat.ble h rows.length then some (.sl e (clip && Nat.beq h rows.length) ((rows.drop l).take (h - l))) else none
    | some m => if Nat.ble l h && Nat.ble h m && Nat.ble m rows.length then some (.sl e (Nat.beq h m) ((rows.drop l).take (h - l))) else none
  | .own t e off len cap ex =>
    let l := lo.getD 0
    let h := hi.getD len
    match mx with
    | none => if Nat.ble l h && Nat.ble h cap then some (.own t e (off + l) (h - l) (cap - l) ex) else none
    | some m => if Nat.ble l h && Nat.ble h m && Nat.ble m cap then some (.own t e (off + l) (h - l) (m - l) true) else none
  | _ => none

def setRows : Nat → List Row → List Row → List Row
  | _, [], rows => rows
  | i, w :: r, rows => setRows (i + 1) r (rows.set i w)

def appendE (sto : Sto) (fz : List Nat) (esz : Nat) (x y : PV) : Option Res :=
  match rowsOf sto esz y with
  | none => none
  | some new =>
    match new with
    | [] => match x with
      | .sl _ clip rows => if clip && rows.isEmpty then some { v := .own sto.length esz 0 0 0 false, news := [.arr esz []], rd := tokOf y } else some { v := x, rd := tokOf y }
      | .own t _ _ len cap ex => if Nat.beq len 0 && Nat.beq cap 0 && ex then some { v := .own sto.length esz 0 0 0 false, news := [.arr esz []], rd := t :: tokOf y } else some { v := x, rd := tokOf y }
      | _ => none
    | _ =>
      let m := new.length
      match x with
      | .sl e clip rows =>
        if clip && (Nat.beq e esz || Nat.beq rows.length 0) && Nat.ble (rows.length + m) most then
          some { v := .own sto.length esz 0 (rows.length + m) (rows.length + m) false, news := [.arr esz (rows ++ new)], rd := tokOf y }
        else none
      | .own t e off len cap ex =>
        match sto[t]? with
        | some (.arr _ rows) =>
          if !Nat.beq e esz then none
          else if Nat.ble (len + m) cap then
            if has fz t then none else some { v := .own t e off (len + m) cap ex, wr := [(t, .arr e (setRows (off + len) new rows))], rd := tokOf y }
          else if !Nat.ble (len + m) most then none
          else if ex then
            some { v := .own sto.length e 0 (len + m) (len + m) false, news := [.arr e ((rows.drop off).take len ++ new)], rd := t :: tokOf y }
          else if has fz t then none
          else some { v := .own sto.length e 0 (len + m) (len + m) false, news := [.arr e ((rows.drop off).take len ++ new)], wr := [(t, .dead)], rd := tokOf y }
        | _ => none
      | _ => none

def mmE (isMax : Bool) (k : IntKind) : Int → List PV → Option PV
  | a, [] => some (.int k a)
  | a, x :: r => match x with
    | .int l b => if kindEq k l then mmE isMax k (if isMax then (if b > a then b else a) else (if b < a then b else a)) r else none
    | _ => none

def evs (e : Env) (l : List Opd) : List PV := l.map (Opd.ev e)

def lookupE (sto : Sto) (n : Option Nat) (zero : PV) (ok : Bool) (m k : PV) : Option Res :=
  match m with
  | .mp t => match sto[t]? with
    | some (.map es) => if keyOk n k then (match findIdx n k es 0 with
      | some (some i) => match es[i]? with
        | some p => some { v := if ok then .tup [p.2, .bool true] else p.2, rd := [t] }
        | none => none
      | some none => some { v := if ok then .tup [zero, .bool false] else zero, rd := [t] }
      | none => none) else none
    | _ => none
  | _ => none

def mapuE (sto : Sto) (fz : List Nat) (n : Option Nat) (m k v : PV) : Option Res :=
  match m with
  | .mp t => match sto[t]? with
    | some (.map es) => if keyOk n k && !has fz t then (match k.storedPlain, v.storedPlain with
      | some _, some _ => match findIdx n k es 0 with
        | some (some i) => some { v := .undef, wr := [(t, .map (es.set i (k, v)))] }
        | some none => some { v := .undef, wr := [(t, .map (es ++ [(k, v)]))] }
        | none => none
      | _, _ => none) else none
    | _ => none
  | _ => none

/-- An operation that calls nothing. -/
def evOp (e : Env) (sto : Sto) (fz : List Nat) : XOp → Option Res
  | .mov x => some { v := x.ev e }
  | .pick c a b => match c.ev e with
    | .bool true => some { v := a.ev e }
    | .bool false => some { v := b.ev e }
    | _ => none
  | .bin op x y => (binE op (x.ev e) (y.ev e)).map fun v => { v }
  | .binb neg x y => match x.ev e, y.ev e with
    | .bool a, .bool b => some { v := .bool (if neg then !(a == b) else a == b) }
    | _, _ => none
  | .eqc n neg x y => match x.ev e, y.ev e with
    | .agg xs, .agg ys => if Nat.beq xs.length n && Nat.beq ys.length n then (eqCells xs ys).map fun b => { v := .bool (if neg then !b else b) } else none
    | _, _ => none
  | .un op x => (unE op (x.ev e)).map fun v => { v }
  | .conv k x => match x.ev e with
    | .int _ n => some { v := .int k (wrapF k n) }
    | _ => none
  | .len x => match x.ev e with
    | .sl _ _ rows => some { v := .int .i64 (.ofNat rows.length) }
    | .own _ _ _ len _ _ => some { v := .int .i64 (.ofNat len) }
    | _ => none
  | .lenc n => some { v := .int .i64 (.ofNat n) }
  | .box x => match (x.ev e).stored with
    | some cs => some { v := .ptr sto.length cs.length 0 0, news := [.box cs] }
    | none => none
  | .alloc cells => some { v := .ptr sto.length cells.length 0 0, news := [.box cells] }
  | .build zero parts => (fillCells (parts.map fun p => (p.1, p.2.1, p.2.2.ev e)) zero).map fun cs => { v := .agg cs }
  | .mkrow esz n zero parts => (fillRows (parts.map fun p => (p.1, p.2.ev e)) (List.replicate n zero) esz).map fun rows =>
      { v := .own sto.length esz 0 n n true, news := [.arr esz rows] }
  | .load agg p => loadE sto agg (p.ev e)
  | .store sz p v => storeE sto fz sz (v.ev e) (p.ev e)
  | .nilc x => match x.ev e with
    | .ptr t s r o => some { v := .ptr t s r o }
    | .rptr c o => some { v := .rptr c o }
    | .clo f a b => some { v := .clo f a b }
    | _ => none
  | .fadr off p => match p.ev e with
    | .ptr t s r o => some { v := .ptr t s r (o + off) }
    | .rptr c o => some { v := .rptr c (o + off) }
    | _ => none
  | .fld agg off x => match x.ev e with
    | .agg cs => (part agg off cs).map fun v => { v }
    | _ => none
  | .iadr esz x i => match asNat (i.ev e) with
    | none => none
    | some n => match x.ev e with
      | .sl s _ rows => match rows[n]? with
        | some cs => if Nat.beq s esz then some { v := .rptr cs 0 } else none
        | none => none
      | .own t s off len _ _ => if Nat.blt n len && Nat.beq s esz then some { v := .ptr t s (off + n) 0 } else none
      | _ => none
  | .iadra n esz p i => match asNat (i.ev e) with
    | none => none
    | some j => if Nat.blt j n then (match p.ev e with
      | .ptr t s r o => some { v := .ptr t s r (o + j * esz) }
      | .rptr c o => some { v := .rptr c (o + j * esz) }
      | _ => none) else none
  | .idx n esz agg x i => match asNat (i.ev e) with
    | none => none
    | some j => if Nat.blt j n then (match x.ev e with
      | .agg cs => (part agg (j * esz) cs).map fun v => { v }
      | _ => none) else none
  | .sidx x i => match asNat (i.ev e), x.ev e with
    | some j, .str s => match s[j]? with
      | some b => some { v := .int .u8 b.toNat }
      | none => none
    | _, _ => none
  | .slc esz x lo hi mx =>
    if !eszOk esz (x.ev e) then none else
    match (match lo with | none => some none | some a => (asNat (a.ev e)).map some),
      (match hi with | none => some none | some a => (asNat (a.ev e)).map some),
      (match mx with | none => some none | some a => (asNat (a.ev e)).map some) with
    | some l, some h, some m => (sliceE (x.ev e) l h m).map fun v => { v }
    | _, _, _ => none
  | .mks esz zero l c => match asNat (l.ev e), asNat (c.ev e) with
    | some n, some m => if Nat.ble n m && Nat.ble m most then
        some { v := .own sto.length esz 0 n m true, news := [.arr esz (List.replicate m zero)] } else none
    | _, _ => none
  | .mkf fn a b => some { v := .clo fn (evs e a) (evs e b) }
  | .mkm => some { v := .mp sto.length, news := [.map []] }
  | .lookup n zero ok m k => lookupE sto n zero ok (m.ev e) (k.ev e)
  | .mapu n m k v => mapuE sto fz n (m.ev e) (k.ev e) (v.ev e)
  | .ext i x => match x.ev e with
    | .tup vs => vs[i]?.map fun v => { v }
    | _ => none
  | .append esz x y => appendE sto fz esz (x.ev e) (y.ev e)
  | .copy esz x y => match rowsOf sto esz (y.ev e), x.ev e with
    | some src, .own t s off len _ _ => match src.take len with
      | [] => some { v := .int .i64 0, rd := tokOf (y.ev e) }
      | r :: rs => match sto[t]? with
        | some (.arr s' rows) =>
          if Nat.beq s esz && !has fz t then
            some { v := .int .i64 (.ofNat (rs.length + 1)), wr := [(t, .arr s' (setRows off (r :: rs) rows))], rd := tokOf (y.ev e) }
          else none
        | _ => none
    | _, _ => none
  | .clear esz zero x => match x.ev e with
    | .own t s off len _ _ => match len with
      | 0 => some { v := .undef }
      | len + 1 => match sto[t]? with
        | some (.arr s' rows) =>
          if Nat.beq s esz && !has fz t then
            some { v := .undef, wr := [(t, .arr s' (setRows off (List.replicate (len + 1) zero) rows))] }
          else none
        | _ => none
    | .sl _ _ [] => some { v := .undef }
    | _ => none
  | .mm isMax x xs => match x.ev e with
    | .int k a => (mmE isMax k a (evs e xs)).map fun v => { v }
    | _ => none
  | .call .. => none
  | .callv .. => none
  | .bad => none

/-! ### what goes over the border of a pure call -/

mutual
/-- 'bx': the cells of a block, as they go over. -/
def exP (sto : Sto) (bx : Nat → Option (List PV)) : PV → Option PV
  | .undef => none
  | .nul => none
  | .int k n => some (.int k n)
  | .bool b => some (.bool b)
  | .str s => some (.str s)
  | .agg cs => (exL sto bx cs).map .agg
  | .tup cs => (exL sto bx cs).map .tup
  | .sl e _ rows => some (.sl e false rows)
  | .own t e off len _ _ => match sto[t]? with
    | some (.arr _ rows) => some (.sl e false ((rows.drop off).take len))
    | _ => none
  | .ptr t _ row off => match sto[t]? with
    | some (.box _) => if Nat.beq row 0 then (bx t).map (.rptr · off) else none
    | some (.arr _ rows) => rows[row]?.map (.rptr · off)
    | _ => none
  | .rptr cs off => (exL sto bx cs).map (.rptr · off)
  | .mp _ => none
  | .clo f a b => match exL sto bx a, exL sto bx b with
    | some a', some b' => some (.clo f a' b')
    | _, _ => none
  | .nilf => some .nilf
def exL (sto : Sto) (bx : Nat → Option (List PV)) : List PV → Option (List PV)
  | [] => some []
  | x :: xs => match exP sto bx x, exL sto bx xs with
    | some y, some ys => some (y :: ys)
    | _, _ => none
end

def exBx (sto : Sto) : Nat → Nat → Option (List PV)
  | 0, _ => none
  | n + 1, t => match sto[t]? with
    | some (.box cs) => exL sto (exBx sto n) cs
    | _ => none

mutual
/-- The blocks that a value leads to; 'bx': those behind a block. -/
def toks (bx : Nat → List Nat) : PV → List Nat
  | .agg cs => toksL bx cs
  | .tup cs => toksL bx cs
  | .own t _ _ _ _ _ => [t]
  | .ptr t _ _ _ => t :: bx t
  | .rptr cs _ => toksL bx cs
  | .mp t => [t]
  | .clo _ a b => toksL bx a ++ toksL bx b
  | .undef | .nul | .int _ _ | .bool _ | .str _ | .sl .. | .nilf => []
def toksL (bx : Nat → List Nat) : List PV → List Nat
  | [] => []
  | x :: xs => toks bx x ++ toksL bx xs
end

def noBx (_ : Nat) : List Nat := []

def toksBx (sto : Sto) : Nat → Nat → List Nat
  | 0, _ => []
  | n + 1, t => match sto[t]? with
    | some (.box cs) => toksL (toksBx sto n) cs
    | _ => []

mutual
def PV.noref : PV → Bool
  | .int _ _ | .bool _ | .str _ => true
  | .agg cs => norefL cs
  | .tup cs => norefL cs
  | _ => false
def norefL : List PV → Bool
  | [] => true
  | x :: xs => x.noref && norefL xs
end

mutual
/-- A result as it is kept where nobody writes to it. -/
def imF (sto : Sto) : PV → Option PV
  | .int k n => some (.int k n)
  | .bool b => some (.bool b)
  | .str s => some (.str s)
  | .agg cs => (imFL sto cs).map .agg
  | .tup cs => (imFL sto cs).map .tup
  | .sl e _ rows => some (.sl e false rows)
  | .own t e off len _ _ => match sto[t]? with
    | some (.arr _ rows) => some (.sl e false ((rows.drop off).take len))
    | _ => none
  | _ => none
def imFL (sto : Sto) : List PV → Option (List PV)
  | [] => some []
  | x :: xs => match imF sto x, imFL sto xs with
    | some y, some ys => some (y :: ys)
    | _, _ => none
end

mutual
/-- A result whose slices become blocks of the caller's own, each once: 'nx' the next number, 'seen' the callee's that are taken. -/
def imO (sto : Sto) (fz : List Nat) : Nat → List Nat → PV → Option (PV × Sto × List Nat)
  | _, seen, .int k n => some (.int k n, [], seen)
  | _, seen, .bool b => some (.bool b, [], seen)
  | nx, seen, .agg cs => (imOL sto fz nx seen cs).map fun r => (.agg r.1, r.2)
  | nx, seen, .tup cs => (imOL sto fz nx seen cs).map fun r => (.tup r.1, r.2)
  | nx, seen, .sl e true [] => some (.own nx e 0 0 0 false, [.arr e []], seen)
  | nx, seen, .own t e off len cap _ => match sto[t]? with
    | some (.arr e' rows) => if has seen t || has fz t then none else some (.own nx e off len cap false, [.arr e' rows], t :: seen)
    | _ => none
  | _, _, _ => none
def imOL (sto : Sto) (fz : List Nat) : Nat → List Nat → List PV → Option (List PV × Sto × List Nat)
  | _, seen, [] => some ([], [], seen)
  | nx, seen, x :: xs => match imO sto fz nx seen x with
    | some (y, n1, seen1) => match imOL sto fz (nx + n1.length) seen1 xs with
      | some (ys, n2, seen2) => some (y :: ys, n1 ++ n2, seen2)
      | none => none
    | none => none
end

/-! ### the head of a loop: what is kept, in one form -/

def blkToks : Blk → List Nat
  | .box cs => toksL noBx cs
  | _ => []

def reach (sto : Sto) : Nat → List Nat → List Nat → Option (List Nat)
  | _, [], seen => some seen
  | 0, _ :: _, _ => none
  | n + 1, t :: ts, seen =>
    if has seen t then reach sto n ts seen
    else match sto[t]? with
      | some b => reach sto n (blkToks b ++ ts) (seen ++ [t])
      | none => none

def idxOf (t : Nat) : List Nat → Option Nat
  | [] => none
  | s :: r => if Nat.beq s t then some 0 else (idxOf t r).map (· + 1)

mutual
def ren (m : List Nat) : PV → Option PV
  | .agg cs => (renL m cs).map .agg
  | .tup cs => (renL m cs).map .tup
  | .own t e off len cap ex => (idxOf t m).map fun u => .own u e off len cap ex
  | .ptr t e row off => (idxOf t m).map fun u => .ptr u e row off
  | .rptr cs off => (renL m cs).map (.rptr · off)
  | .mp t => (idxOf t m).map .mp
  | .clo f a b => match renL m a, renL m b with
    | some a', some b' => some (.clo f a' b')
    | _, _ => none
  | .undef => some .undef
  | .nul => some .nul
  | .int k n => some (.int k n)
  | .bool b => some (.bool b)
  | .str s => some (.str s)
  | .sl e c rows => some (.sl e c rows)
  | .nilf => some .nilf
def renL (m : List Nat) : List PV → Option (List PV)
  | [] => some []
  | x :: xs => match ren m x, renL m xs with
    | some y, some ys => some (y :: ys)
    | _, _ => none
end

def renBlk (m : List Nat) : Blk → Option Blk
  | .box cs => (renL m cs).map .box
  | .arr e rows => some (.arr e rows)
  | .map es => some (.map es)
  | .dead => some .dead

def renSto (sto : Sto) (m : List Nat) : List Nat → Option Sto
  | [] => some []
  | t :: ts => match sto[t]? with
    | some b => match renBlk m b, renSto sto m ts with
      | some b', some r => some (b' :: r)
      | _, _ => none
    | none => none

def renFz (fz : List Nat) : Nat → List Nat → List Nat
  | _, [] => []
  | i, t :: ts => if has fz t then i :: renFz fz (i + 1) ts else renFz fz (i + 1) ts

/-- The live slots, renamed; an empty slice in a slot that is marked becomes a block of its own. -/
def liveEnv (e : Env) (m : List Nat) : Nat → List (Nat × Option Nat) → Option (Env × Sto)
  | _, [] => some ([], [])
  | nx, (s, k) :: r =>
    match k, lk s e with
    | some esz, .sl _ true [] => (liveEnv e m (nx + 1) r).map fun p => ((s, .own nx esz 0 0 0 false) :: p.1, .arr esz [] :: p.2)
    | _, v => match ren m v, liveEnv e m nx r with
      | some v', some p => some ((s, v') :: p.1, p.2)
      | _, _ => none

def upTo : Nat → List Nat
  | 0 => []
  | n + 1 => upTo n ++ [n]

/-- An empty slice in a box becomes a block of its own. -/
def ownCell (st : St) (t c esz : Nat) : St :=
  match st.sto[t]? with
  | some (.box cs) => match cs[c]? with
    | some (.sl _ true []) => { st with sto := st.sto.set t (.box (cs.set c (.own st.sto.length esz 0 0 0 false))) ++ [.arr esz []] }
    | _ => st
  | _ => st

/-- .. where a mark of at least 1000 says so: the box behind a slot's pointer, the cell, the size of the rows. -/
def ownCells : List (Nat × Option Nat) → St → St
  | [], st => st
  | (s, k) :: r, st => match k with
    | some n => if Nat.ble 1000 n then (match lk s st.env with
        | .ptr t _ 0 0 => ownCells r (ownCell st t (n / 1000 - 1) (n % 1000))
        | _ => ownCells r st) else ownCells r st
    | none => ownCells r st

def norm1 (live : List (Nat × Option Nat)) (st : St) : Option St :=
  match reach st.sto 4096 ((st.sto.take st.kn).flatMap blkToks ++ live.flatMap fun p => toks noBx (lk p.1 st.env)) (upTo st.kn) with
  | none => none
  | some m => match renSto st.sto m m, liveEnv st.env m m.length live with
    | some s1, some (e1, s2) => some (ownCells live { env := e1, sto := s1 ++ s2, fz := renFz st.fz 0 m, kn := st.kn })
    | _, _ => none

/-- Where blocks may have been made, they are numbered once more. -/
def norm (live : List (Nat × Option Nat)) (st : St) : Option St :=
  match norm1 live st with
  | some s => if live.any fun p => p.2.isSome then norm1 live s else some s
  | none => none

/-! ### the machine -/

inductive Task where
  | func (f : FuncId) (args : List PV) (sto : Sto) (fz : List Nat)
  | loop (live : List (Nat × Option Nat)) (b : XCode) (st : St)

inductive Out where
  | func (v : PV) (sto : Sto) (fz : List Nat)
  | code (e : XExit) (st : St)

/-- What an operation touches: for the regions that draw their order. -/
structure Tr where
  rd : List Nat
  wr : List Nat
  al : Bool
  bar : Bool
  cl : Bool
  lo : Nat
  hi : Nat

/-- An operation's outcome: 'loc': as 'Res' says; 'shr': a call that worked on the blocks themselves. -/
inductive XR where
  | loc (r : Res)
  | shr (v : PV) (sto : Sto) (fz : List Nat)

def applyWr : List (Nat × Blk) → Sto → Sto
  | [], s => s
  | (t, b) :: r, s => applyWr r (s.set t b)

def isOwnPtr : PV → Bool
  | .ptr .. => true
  | .own .. => true
  | .mp _ => true
  | _ => false

/-- How deep a pure call's arguments are followed through blocks. -/
def deep : Nat := 8

def callPure (F : Tab) (rec : Task → Option Out) (own : Bool) (f : FuncId) (args : List PV) (sto : Sto) (fz : List Nat) : Option Res :=
  match exL sto (exBx sto deep) args with
  | none => none
  | some args' =>
    let tk := toksL (toksBx sto deep) args
    match F f with
    | some (.prim kills p) => match p args' with
      | some (v, news) => match imO news [] sto.length [] v with
        | some (v', n2, _) =>
          if kills then match args with
            | .own t _ _ _ _ _ :: r =>
              let tr := toksL (toksBx sto deep) r
              if has fz t || has tr t then none
              else some { v := v', news := n2, wr := [(t, .dead)], rd := tr }
            | _ => none
          else some { v := v', news := n2, rd := tk }
        | none => none
      | none => none
    | _ => match rec (.func f args' [] []) with
      | some (.func v s1 z1) =>
        if own then match imO s1 z1 sto.length [] v with
          | some (v', n2, _) => some { v := v', news := n2, rd := tk }
          | none => none
        else if v.noref then some { v, rd := tk }
        else match imF s1 v with
          | some v' => some { v := v', rd := tk, fr := tk }
          | none => none
      | _ => none

def Blk.solid : Blk → Bool
  | .dead => false
  | .arr _ [] => false
  | _ => true

def firmAt (s : Sto) (t : Nat) : Bool := match s[t]? with | some b => b.solid | none => false

def dedup : List Nat → List Nat
  | [] => []
  | t :: r => if has r t then dedup r else t :: dedup r

mutual
/-- Every block under another number. -/
def renF (g : Nat → Nat) : PV → PV
  | .agg cs => .agg (renFL g cs)
  | .tup cs => .tup (renFL g cs)
  | .own t e off len cap ex => .own (g t) e off len cap ex
  | .ptr t e row off => .ptr (g t) e row off
  | .rptr cs off => .rptr (renFL g cs) off
  | .mp t => .mp (g t)
  | .clo f a b => .clo f (renFL g a) (renFL g b)
  | .undef => .undef
  | .nul => .nul
  | .int k n => .int k n
  | .bool b => .bool b
  | .str s => .str s
  | .sl e c rows => .sl e c rows
  | .nilf => .nilf
def renFL (g : Nat → Nat) : List PV → List PV
  | [] => []
  | x :: xs => renF g x :: renFL g xs
end

def renFB (g : Nat → Nat) : Blk → Blk
  | .box cs => .box (renFL g cs)
  | b => b

def renFS (g : Nat → Nat) : Sto → Sto
  | [] => []
  | b :: r => renFB g b :: renFS g r

/-- The caller's number of a callee's block. -/
def backTok (tk : List Nat) (n u : Nat) : Nat :=
  match tk[u]? with
  | some t => t
  | none => n + (u - tk.length)

/-- What the callee left in the blocks that were lent. -/
def wrBack (g : Nat → Nat) : List Nat → Sto → List (Nat × Blk)
  | t :: r, b :: s => (t, renFB g b) :: wrBack g r s
  | _, _ => []

def firmAll : Sto → Sto → Bool
  | [], _ => true
  | b :: r, c :: q => (match b.solid, c.solid with | true, true => true | false, false => true | _, _ => false) && firmAll r q
  | _ :: _, [] => false

/-- The blocks that the arguments lead to, alone and numbered anew. -/
def lend (args : List PV) (sto : Sto) (fz : List Nat) (tk : List Nat) : Option (List PV × Sto) :=
  if tk.all fun t => !has fz t then
    match renL tk args, renSto sto tk tk with
    | some a, some s => some (a, s)
    | _, _ => none
  else none

/-- Do a result, and the blocks that were lent, lead to no blocks of the callee's? -/
def keepsOut (k : Nat) (v : PV) (s : Sto) : Bool := (toks noBx v ++ (s.take k).flatMap blkToks).all fun t => Nat.blt t k

def takeBack (tk : List Nat) (n : Nat) (s0 : Sto) (v : PV) (s : Sto) : Option Res :=
  if firmAll s0 s then some { v := renF (backTok tk n) v, news := if keepsOut tk.length v s then [] else renFS (backTok tk n) (s.drop tk.length), wr := wrBack (backTok tk n) tk s } else none

/-- A call that works on the blocks that its arguments lead to, and on no others; it kills and freezes none. -/
def callFp (rec : Task → Option Out) (f : FuncId) (args : List PV) (sto : Sto) (fz : List Nat) : Option Res :=
  match lend args sto fz (dedup (toksL (toksBx sto deep) args)) with
  | none => none
  | some (a, s0) => match rec (.func f a s0 []) with
    | some (.func v s []) => takeBack (dedup (toksL (toksBx sto deep) args)) sto.length s0 v s
    | _ => none

def callShared (rec : Task → Option Out) (f : FuncId) (args : List PV) (sto : Sto) (fz : List Nat) : Option XR :=
  match rec (.func f args sto fz) with
  | some (.func v s z) => if Nat.ble sto.length s.length && fz.all (has z) then some (.shr v s z) else none
  | _ => none

def evX (F : Tab) (rec : Task → Option Out) (e : Env) (sto : Sto) (fz : List Nat) : XOp → Option XR
  | .call m f args => match m with
    | .pur => (callPure F rec false f (evs e args) sto fz).map .loc
    | .own => (callPure F rec true f (evs e args) sto fz).map .loc
    | .shr => callShared rec f (evs e args) sto fz
    | .fp => (callFp rec f (evs e args) sto fz).map .loc
  | .callv x args => match x.ev e with
    | .clo f a b =>
      if (evs e args ++ b).any isOwnPtr then callShared rec f (a ++ evs e args ++ b) sto fz
      else (callPure F rec false f (a ++ evs e args ++ b) sto fz).map .loc
    | _ => none
  | op => (evOp e sto fz op).map .loc

def putEnv (d : Option Nat) (v : PV) (e : Env) : Env :=
  match d with
  | some t => (t, v) :: e
  | none => e

/-- Blocks that are new, behind the others. -/
def addN (s : Sto) : List Blk → Sto
  | [] => s
  | b :: r => s ++ b :: r

theorem addN_eq (s : Sto) (l : List Blk) : addN s l = s ++ l := by
  cases l
  · exact (List.append_nil s).symm
  · rfl

def XR.next (d : Option Nat) (st : St) : XR → St
  | .loc r => { env := putEnv d r.v st.env, sto := addN (applyWr r.wr st.sto) r.news, fz := r.fr ++ st.fz, kn := st.kn }
  | .shr v s z => { env := putEnv d v st.env, sto := s, fz := z, kn := st.kn }

def XR.tr (nx : Nat) : XR → Tr
  | .loc r => ⟨r.rd ++ r.fr, r.wr.map (·.1), !r.news.isEmpty, false, (r.rd ++ r.fr).all (Nat.blt · nx) && r.wr.all (fun p => Nat.blt p.1 nx), nx, nx + r.news.length⟩
  | .shr .. => ⟨[], [], true, true, true, 0, 0⟩

/-- Each block once. -/
def nodupW : List (Nat × Blk) → Bool
  | [] => true
  | p :: r => (r.all fun q => !Nat.beq q.1 p.1) && nodupW r

/-- What is written is not frozen. -/
def XR.ok (fz : List Nat) : XR → Bool
  | .loc r => (r.wr.all fun p => !has fz p.1) && nodupW r.wr
  | .shr .. => true

def Tr.idle : Tr := ⟨[], [], false, false, true, 0, 0⟩

/-- Is an operation run? -/
def wanted (g : Option (Nat × Bool)) (e : Env) : Option Bool :=
  match g with
  | none => some true
  | some (s, want) => match lk s e with
    | .bool b => some (b == want)
    | .nul => some false
    | _ => none

def evOps (F : Tab) (rec : Task → Option Out) : List XOper → St → List Tr → Option (St × List Tr)
  | [], st, tr => some (st, tr)
  | o :: r, st, tr =>
    match wanted o.guard st.env with
    | some true => match evX F rec st.env st.sto st.fz o.op with
      | some x => if x.ok st.fz then evOps F rec r (x.next o.dst st) (x.tr st.sto.length :: tr) else none
      | none => none
    | some false => evOps F rec r { st with env := putEnv o.dst .nul st.env } (Tr.idle :: tr)
    | none => none

def meets (a b : List Nat) : Bool := a.any (has b)
def Tr.touches (a : Tr) : Bool := !a.rd.isEmpty || !a.wr.isEmpty || a.al || a.bar
def Tr.clash (a b : Tr) : Bool :=
  (a.bar && b.touches) || (b.bar && a.touches) || meets a.wr b.rd || meets a.wr b.wr || meets a.rd b.wr ||
    b.wr.any fun t => Nat.ble a.lo t && Nat.blt t a.hi

/-- Operation i clashes with none of the later ones, but for those that are bound to run behind it. 'l': the later ones with their 'before'. -/
def freeOf (i : Nat) (a : Tr) : List (Tr × Nat) → Bool
  | [] => true
  | (b, bf) :: r => (!a.clash b || bf.testBit i) && freeOf i a r

def orderOk : Nat → List (Tr × Nat) → Bool
  | _, [] => true
  | i, (a, _) :: r => a.cl && freeOf i a r && orderOk (i + 1) r

def evRegion (F : Tab) (rec : Task → Option Out) (draw : Option (List Nat)) (ops : List XOper) (keep : List Nat) (st : St) : Option St :=
  match evOps F rec ops st [] with
  | none => none
  | some (st', tr) =>
    let st2 : St := { st' with env := keep.map fun s => (s, lk s st'.env) }
    match draw with
    | none => some st2
    | some bf => if orderOk 0 (tr.reverse.zip bf) then some st2 else none

def evC (F : Tab) (rec : Task → Option Out) : XCode → St → Option (XExit × St)
  | .skip, st => some (.normal, st)
  | .region d ops keep, st => (evRegion F rec d ops keep st).map fun s => (.normal, s)
  | .seq a b, st => match evC F rec a st with
    | some (.normal, st') => evC F rec b st'
    | r => r
  | .cond c a b, st => match c.ev st.env with
    | .bool true => evC F rec a st
    | .bool false => evC F rec b st
    | _ => none
  | .block id b, st => match evC F rec b st with
    | some (.exit j, st') => if Nat.beq j id then some (.normal, st') else some (.exit j, st')
    | r => r
  | .loop live b, st => match rec (.loop live b st) with
    | some (.code e st') => some (e, st')
    | _ => none
  | .exit id, st => some (.exit id, st)
  | .ret, st => some (.ret, st)

def resOf (st : St) : RV → Option PV
  | .tmp t => some (lk t st.env)
  | .cell t agg => (loadE st.sto agg (lk t st.env)).map (·.v)

def resAll (st : St) : List RV → Option (List PV)
  | [] => some []
  | r :: rs => match resOf st r, resAll st rs with
    | some v, some vs => some (v :: vs)
    | _, _ => none

def results1 : List PV → PV
  | [v] => v
  | vs => .tup vs

def envOf : Nat → List PV → Env
  | _, [] => []
  | i, v :: r => (i, v) :: envOf (i + 1) r

def step (F : Tab) (rec : Task → Option Out) : Task → Option Out
  | .func f args sto fz => match F f with
    | some (.code x) =>
      if Nat.beq args.length x.nargs then
        match evC F rec x.code { env := envOf 0 args, sto, fz, kn := sto.length } with
        | some (.normal, st) => (resAll st x.res).map fun vs => .func (results1 vs) st.sto st.fz
        | some (.ret, st) => (resAll st x.res).map fun vs => .func (results1 vs) st.sto st.fz
        | _ => none
      else none
    | _ => none
  | .loop live b st => match norm live st with
    | none => none
    | some st1 => match evC F rec b st1 with
      | some (.normal, st2) => rec (.loop live b st2)
      | some (e, st2) => some (.code e st2)
      | none => none

/-! ### functions that are known without their code -/

def pClone (esz : Nat) : List PV → Option (PV × Sto)
  | [.sl e _ rows] => match rows with
    | [] => some (.own 1 esz 0 0 0 false, [.arr esz [], .arr esz []])
    | r :: rs => if Nat.beq e esz && Nat.ble (rs.length + 1) most then some (.own 1 esz 0 (0 + (rs.length + 1)) (0 + (rs.length + 1)) false, [.arr esz [], .arr esz (r :: rs)]) else none
  | _ => none

def pInsert (esz : Nat) : List PV → Option (PV × Sto)
  | [.sl e _ rows, .int .i64 (.ofNat i), .sl e' _ new] =>
    if (Nat.beq e esz || rows.isEmpty) && (Nat.beq e' esz || new.isEmpty) && Nat.ble i rows.length && Nat.ble (rows.length + new.length) most then
      let r := rows.take i ++ new ++ rows.drop i
      some (.own 0 esz 0 r.length r.length false, [.arr esz r])
    else none
  | _ => none

/-- math/bits.Add64, Sub64: the sum and the carry. -/
def pAdd64 : List PV → Option (PV × Sto)
  | [.int .u64 (.ofNat a), .int .u64 (.ofNat b), .int .u64 (.ofNat c)] =>
    if Nat.ble c 1 then
      let s := a + b + c
      some (.tup [.int .u64 (.ofNat (s % 18446744073709551616)), .int .u64 (.ofNat (s / 18446744073709551616))], [])
    else none
  | _ => none

def pSub64 : List PV → Option (PV × Sto)
  | [.int .u64 (.ofNat a), .int .u64 (.ofNat b), .int .u64 (.ofNat c)] =>
    if Nat.ble c 1 && Nat.ble b 18446744073709551615 then
      some (.tup [.int .u64 (.ofNat ((a + 18446744073709551616 - b - c) % 18446744073709551616)), .int .u64 (bif Nat.blt a (b + c) then 1 else 0)], [])
    else none
  | _ => none

noncomputable def run (F : Tab) (n : Nat) : Task → Option Out := Nat.rec (fun _ => none) (fun _ ih => step F ih) n

end Go.Vm

/- Rules for the logical machine: what more fuel keeps, and a calculus of its runs. -/
namespace Go.Vm

def Le (r s : Task → Option Out) : Prop := ∀ t o, r t = some o → s t = some o

theorem callPure_mono {F : Tab} {r s : Task → Option Out} (h : Le r s) {own : Bool} {f : FuncId} {args : List PV} {sto : Sto} {fz : List Nat} {x : Res}
    (hx : callPure F r own f args sto fz = some x) : callPure F s own f args sto fz = some x := by
  cases ha : exL sto (exBx sto deep) args with
  | none => simp [callPure, ha] at hx
  | some a =>
    simp only [callPure, ha] at hx ⊢
    cases hp : F f with
    | none =>
      rw [hp] at hx
      dsimp only at hx ⊢
      cases hr : r (.func f a [] []) with
      | none => rw [hr] at hx; cases hx
      | some o => rw [hr] at hx; rw [h _ _ hr]; exact hx
    | some en =>
      rw [hp] at hx
      cases en with
      | prim k p => exact hx
      | code x =>
        dsimp only at hx ⊢
        cases hr : r (.func f a [] []) with
        | none => rw [hr] at hx; cases hx
        | some o => rw [hr] at hx; rw [h _ _ hr]; exact hx

theorem callShared_mono {r s : Task → Option Out} (h : Le r s) {f : FuncId} {args : List PV} {sto : Sto} {fz : List Nat} {x : XR}
    (hx : callShared r f args sto fz = some x) : callShared s f args sto fz = some x := by
  unfold callShared at hx ⊢
  cases hr : r (.func f args sto fz) with
  | none => rw [hr] at hx; cases hx
  | some o => rw [hr] at hx; rw [h _ _ hr]; exact hx

theorem callFp_mono {r s : Task → Option Out} (h : Le r s) {f : FuncId} {args : List PV} {sto : Sto} {fz : List Nat} {x : Res}
    (hx : callFp r f args sto fz = some x) : callFp s f args sto fz = some x := by
  unfold callFp at hx ⊢
  cases hl : lend args sto fz (dedup (toksL (toksBx sto deep) args)) with
  | none => rw [hl] at hx; cases hx
  | some p =>
    rw [hl] at hx
    dsimp only at hx ⊢
    cases hr : r (.func f p.1 p.2 []) with
    | none => rw [hr] at hx; cases hx
    | some o => rw [hr] at hx; rw [h _ _ hr]; exact hx

theorem evX_mono {F : Tab} {r s : Task → Option Out} (h : Le r s) {e : Env} {sto : Sto} {fz : List Nat} {op : XOp} {x : XR}
    (hx : evX F r e sto fz op = some x) : evX F s e sto fz op = some x := by
  cases op with
  | call m f args =>
    cases m with
    | pur =>
      simp only [evX, Option.map_eq_some_iff] at hx ⊢
      obtain ⟨a, ha, rfl⟩ := hx; exact ⟨a, callPure_mono h ha, rfl⟩
    | own =>
      simp only [evX, Option.map_eq_some_iff] at hx ⊢
      obtain ⟨a, ha, rfl⟩ := hx; exact ⟨a, callPure_mono h ha, rfl⟩
    | shr => exact callShared_mono h hx
    | fp =>
      simp only [evX, Option.map_eq_some_iff] at hx ⊢
      obtain ⟨a, ha, rfl⟩ := hx; exact ⟨a, callFp_mono h ha, rfl⟩
  | callv c args =>
    simp only [evX] at hx ⊢
    split at hx
    · split at hx
      · rename_i hc; simp only [hc, if_true]; exact callShared_mono h hx
      · rename_i hc
        rw [if_neg hc]
        rw [Option.map_eq_some_iff] at hx ⊢
        obtain ⟨a, ha, rfl⟩ := hx; exact ⟨a, callPure_mono h ha, rfl⟩
    · cases hx
  | _ => exact hx

theorem evOps_mono {F : Tab} {r s : Task → Option Out} (h : Le r s) (ops : List XOper) :
    ∀ (st : St) (tr : List Tr) (x : St × List Tr), evOps F r ops st tr = some x → evOps F s ops st tr = some x := by
  induction ops with
  | nil => intro st tr x hx; exact hx
  | cons o l ih =>
    intro st tr x hx
    simp only [evOps] at hx ⊢
    cases hw : wanted o.guard st.env with
    | none => rw [hw] at hx; cases hx
    | some b =>
      rw [hw] at hx
      cases b with
      | false => exact ih _ _ _ hx
      | true =>
        dsimp only at hx ⊢
        cases hy : evX F r st.env st.sto st.fz o.op with
        | none => rw [hy] at hx; cases hx
        | some y =>
          rw [hy] at hx; rw [evX_mono h hy]
          dsimp only at hx ⊢
          split at hx
          · rename_i hok; rw [if_pos hok]; exact ih _ _ _ hx
          · cases hx

theorem evRegion_mono {F : Tab} {r s : Task → Option Out} (h : Le r s) {d : Option (List Nat)} {ops : List XOper} {keep : List Nat} {st st' : St}
    (hx : evRegion F r d ops keep st = some st') : evRegion F s d ops keep st = some st' := by
  unfold evRegion at hx ⊢
  cases hy : evOps F r ops st [] with
  | none => rw [hy] at hx; cases hx
  | some y => rw [hy] at hx; rw [evOps_mono h _ _ _ _ hy]; exact hx

theorem evC_mono {F : Tab} {r s : Task → Option Out} (h : Le r s) (c : XCode) :
    ∀ (st : St) (x : XExit × St), evC F r c st = some x → evC F s c st = some x := by
  induction c with
  | skip => intro st x hx; exact hx
  | region d ops keep =>
    intro st x hx
    simp only [evC, Option.map_eq_some_iff] at hx ⊢
    obtain ⟨a, ha, rfl⟩ := hx; exact ⟨a, evRegion_mono h ha, rfl⟩
  | seq a b iha ihb =>
    intro st x hx
    simp only [evC] at hx ⊢
    cases hy : evC F r a st with
    | none => rw [hy] at hx; cases hx
    | some y =>
      rw [hy] at hx; rw [iha _ _ hy]
      obtain ⟨e, st1⟩ := y
      cases e with
      | normal => exact ihb _ _ hx
      | exit i => exact hx
      | ret => exact hx
  | cond c a b iha ihb =>
    intro st x hx
    simp only [evC] at hx ⊢
    split at hx
    · exact iha _ _ hx
    · exact ihb _ _ hx
    · cases hx
  | block id b ih =>
    intro st x hx
    simp only [evC] at hx ⊢
    cases hy : evC F r b st with
    | none => rw [hy] at hx; cases hx
    | some y => rw [hy] at hx; rw [ih _ _ hy]; exact hx
  | loop live b _ =>
    intro st x hx
    simp only [evC] at hx ⊢
    split at hx
    · rename_i e st1 hr; rw [h _ _ hr]; exact hx
    · cases hx
  | exit id => intro st x hx; exact hx
  | ret => intro st x hx; exact hx

theorem step_mono {F : Tab} {r s : Task → Option Out} (h : Le r s) : Le (step F r) (step F s) := by
  intro t o ho
  cases t with
  | func f args sto fz =>
    simp only [step] at ho ⊢
    split at ho
    · rename_i x hx
      split at ho
      · rename_i hl
        simp only [hl, if_true]
        split at ho
        · rename_i st1 hc; rw [evC_mono h _ _ _ hc]; exact ho
        · rename_i st1 hc; rw [evC_mono h _ _ _ hc]; exact ho
        · cases ho
      · cases ho
    · cases ho
  | loop live b st =>
    simp only [step] at ho ⊢
    split at ho
    · cases ho
    · rename_i st1 hn
      split at ho
      · rename_i st2 hc; rw [evC_mono h _ _ _ hc]; exact h _ _ ho
      · rename_i e st2 hne hc
        rw [evC_mono h _ _ _ hc]
        cases e with
        | normal => exact absurd rfl (hne ·)
        | exit i => exact ho
        | ret => exact ho
      · cases ho

theorem run_succ (F : Tab) (n : Nat) : run F (n + 1) = step F (run F n) := rfl

theorem run_le (F : Tab) (n : Nat) : Le (run F n) (run F (n + 1)) := by
  induction n with
  | zero => intro t o h; cases h
  | succ n ih => exact step_mono ih

theorem run_mono (F : Tab) {n m : Nat} (h : n ≤ m) : Le (run F n) (run F m) := by
  induction h with
  | refl => intro t o h; exact h
  | step _ ih => intro t o h; exact run_le F _ _ _ (ih _ _ h)

/-! ### the calculus -/

def Fin (F : Tab) (t : Task) (Q : Out → Prop) : Prop := ∃ n o, run F n t = some o ∧ Q o
def WP (F : Tab) (c : XCode) (st : St) (Q : XExit → St → Prop) : Prop := ∃ n e s, evC F (run F n) c st = some (e, s) ∧ Q e s
def WO (F : Tab) (ops : List XOper) (st : St) (tr : List Tr) (Q : St → List Tr → Prop) : Prop :=
  ∃ n s t, evOps F (run F n) ops st tr = some (s, t) ∧ Q s t

variable {F : Tab}

theorem Fin.mono {t : Task} {Q R : Out → Prop} (h : Fin F t Q) (hr : ∀ o, Q o → R o) : Fin F t R :=
  let ⟨n, o, e, q⟩ := h; ⟨n, o, e, hr _ q⟩
theorem WP.mono {c : XCode} {st : St} {Q R : XExit → St → Prop} (h : WP F c st Q) (hr : ∀ e s, Q e s → R e s) : WP F c st R :=
  let ⟨n, e, s, x, q⟩ := h; ⟨n, e, s, x, hr _ _ q⟩

theorem WP.skip {st : St} {Q : XExit → St → Prop} (h : Q .normal st) : WP F .skip st Q := ⟨0, _, _, rfl, h⟩
theorem WP.ret {st : St} {Q : XExit → St → Prop} (h : Q .ret st) : WP F .ret st Q := ⟨0, _, _, rfl, h⟩
theorem WP.exit {id : Nat} {st : St} {Q : XExit → St → Prop} (h : Q (.exit id) st) : WP F (.exit id) st Q := ⟨0, _, _, rfl, h⟩

def andThen (k : St → Prop) (Q : XExit → St → Prop) : XExit → St → Prop
  | .normal, s => k s
  | e, s => Q e s

theorem WP.seq {a b : XCode} {st : St} {Q : XExit → St → Prop} (h : WP F a st (andThen (fun s => WP F b s Q) Q)) : WP F (.seq a b) st Q := by
  obtain ⟨n, e, s, he, hq⟩ := h
  cases e with
  | normal =>
    obtain ⟨m, e', s', he', hq'⟩ := hq
    refine ⟨max n m, e', s', ?_, hq'⟩
    simp only [evC]
    rw [evC_mono (run_mono F (Nat.le_max_left n m)) _ _ _ he]
    exact evC_mono (run_mono F (Nat.le_max_right n m)) _ _ _ he'
  | exit i => exact ⟨n, _, s, by simp only [evC, he], hq⟩
  | ret => exact ⟨n, _, s, by simp only [evC, he], hq⟩

theorem WP.condT {c : Opd} {a b : XCode} {st : St} {Q : XExit → St → Prop} (hc : c.ev st.env = .bool true) (h : WP F a st Q) : WP F (.cond c a b) st Q := by
  obtain ⟨n, e, s, he, hq⟩ := h
  exact ⟨n, e, s, by simp only [evC, hc, he], hq⟩
theorem WP.condF {c : Opd} {a b : XCode} {st : St} {Q : XExit → St → Prop} (hc : c.ev st.env = .bool false) (h : WP F b st Q) : WP F (.cond c a b) st Q := by
  obtain ⟨n, e, s, he, hq⟩ := h
  exact ⟨n, e, s, by simp only [evC, hc, he], hq⟩
theorem WP.cond {c : Opd} {a b : XCode} {st : St} {Q : XExit → St → Prop} (t : Bool) (hc : c.ev st.env = .bool t)
    (ha : t = true → WP F a st Q) (hb : t = false → WP F b st Q) : WP F (.cond c a b) st Q := by
  cases t
  · exact WP.condF hc (hb rfl)
  · exact WP.condT hc (ha rfl)

def inBlock (id : Nat) (Q : XExit → St → Prop) : XExit → St → Prop
  | .exit j, s => if j = id then Q .normal s else Q (.exit j) s
  | e, s => Q e s

theorem WP.block {id : Nat} {b : XCode} {st : St} {Q : XExit → St → Prop} (h : WP F b st (inBlock id Q)) : WP F (.block id b) st Q := by
  obtain ⟨n, e, s, he, hq⟩ := h
  cases e with
  | normal => exact ⟨n, _, s, by simp only [evC, he], hq⟩
  | ret => exact ⟨n, _, s, by simp only [evC, he], hq⟩
  | exit j =>
    by_cases hj : j = id
    · subst hj
      have hq' : Q .normal s := by simpa [inBlock] using hq
      exact ⟨n, .normal, s, by simp [evC, he], hq'⟩
    · have hq' : Q (.exit j) s := by simpa [inBlock, hj] using hq
      exact ⟨n, .exit j, s, by simp [evC, he, hj], hq'⟩

def keepOnly (keep : List Nat) (s : St) : St := { s with env := keep.map fun t => (t, lk t s.env) }

theorem WP.region {ops : List XOper} {keep : List Nat} {st : St} {Q : XExit → St → Prop}
    (h : WO F ops st [] (fun s _ => Q .normal (keepOnly keep s))) : WP F (.region none ops keep) st Q := by
  obtain ⟨n, s, t, he, hq⟩ := h
  exact ⟨n, .normal, _, by simp only [evC, evRegion, he]; rfl, hq⟩

theorem WP.regionD {bf : List Nat} {ops : List XOper} {keep : List Nat} {st : St} {Q : XExit → St → Prop}
    (h : WO F ops st [] (fun s t => orderOk 0 (t.reverse.zip bf) = true ∧ Q .normal (keepOnly keep s))) : WP F (.region (some bf) ops keep) st Q := by
  obtain ⟨n, s, t, he, ho, hq⟩ := h
  exact ⟨n, .normal, keepOnly keep s, by simp [evC, evRegion, he, ho, keepOnly], hq⟩

theorem WO.nil {st : St} {tr : List Tr} {Q : St → List Tr → Prop} (h : Q st tr) : WO F [] st tr Q := ⟨0, _, _, rfl, h⟩

theorem WO.op {o : XOper} {r : List XOper} {st : St} {tr : List Tr} {Q : St → List Tr → Prop} (x : Res)
    (hw : wanted o.guard st.env = some true) (hx : ∀ rec, evX F rec st.env st.sto st.fz o.op = some (.loc x)) (hok : (XR.loc x).ok st.fz = true)
    (h : WO F r ((XR.loc x).next o.dst st) ((XR.loc x).tr st.sto.length :: tr) Q) : WO F (o :: r) st tr Q := by
  obtain ⟨n, s, t, he, hq⟩ := h
  exact ⟨n, s, t, by simp only [evOps, hw, hx, hok, if_true, he], hq⟩

theorem WO.skip {o : XOper} {r : List XOper} {st : St} {tr : List Tr} {Q : St → List Tr → Prop}
    (hw : wanted o.guard st.env = some false)
    (h : WO F r { st with env := putEnv o.dst .nul st.env } (Tr.idle :: tr) Q) : WO F (o :: r) st tr Q := by
  obtain ⟨n, s, t, he, hq⟩ := h
  exact ⟨n, s, t, by simp only [evOps, hw, he], hq⟩

theorem WO.call {o : XOper} {r : List XOper} {st : St} {tr : List Tr} {Q : St → List Tr → Prop} (x : XR)
    (hw : wanted o.guard st.env = some true) (hx : ∃ n, evX F (run F n) st.env st.sto st.fz o.op = some x) (hok : x.ok st.fz = true)
    (h : WO F r (x.next o.dst st) (x.tr st.sto.length :: tr) Q) : WO F (o :: r) st tr Q := by
  obtain ⟨n, s, t, he, hq⟩ := h
  obtain ⟨m, hx⟩ := hx
  refine ⟨max n m, s, t, ?_, hq⟩
  simp only [evOps, hw]
  rw [evX_mono (run_mono F (Nat.le_max_right n m)) hx]
  dsimp only
  rw [if_pos hok]
  exact evOps_mono (run_mono F (Nat.le_max_left n m)) _ _ _ _ he

/-- A loop: at its head the state is one of a family, each round leads to a later one or out. -/
theorem WP.loop {α : Type} {live : List (Nat × Option Nat)} {b : XCode} {st : St} {Q : XExit → St → Prop} (S : α → St) (I : α → Prop) (μ : α → Nat)
    (x : α) (h0 : norm live st = some (S x)) (hI : I x)
    (round : ∀ x, I x → WP F b (S x) (andThen (fun s => ∃ y, norm live s = some (S y) ∧ I y ∧ μ y < μ x) Q)) : WP F (.loop live b) st Q := by
  have key : ∀ k x st, μ x = k → I x → norm live st = some (S x) → ∃ n e s, run F n (.loop live b st) = some (.code e s) ∧ Q e s := by
    intro k
    induction k using Nat.strongRecOn with
    | _ k ih =>
      intro x st hk hI h0
      obtain ⟨n, e, s, he, hq⟩ := round x hI
      cases e with
      | normal =>
        obtain ⟨y, hy, hIy, hlt⟩ := hq
        obtain ⟨m, e', s', hr, hq'⟩ := ih (μ y) (hk ▸ hlt) y s rfl hIy hy
        refine ⟨max n m + 1, e', s', ?_, hq'⟩
        rw [run_succ]
        simp only [step, h0]
        rw [evC_mono (run_mono F (Nat.le_max_left n m)) _ _ _ he]
        exact run_mono F (Nat.le_max_right n m) _ _ hr
      | exit i => exact ⟨n + 1, _, s, by rw [run_succ]; simp only [step, h0, he], hq⟩
      | ret => exact ⟨n + 1, _, s, by rw [run_succ]; simp only [step, h0, he], hq⟩
  obtain ⟨n, e, s, hr, hq⟩ := key _ x st rfl hI h0
  exact ⟨n, e, s, by simp only [evC, hr], hq⟩

/-- What a function's end gives. -/
def fnPost (x : XFunc) (R : PV → Sto → List Nat → Prop) : XExit → St → Prop
  | .normal, s => ∃ vs, resAll s x.res = some vs ∧ R (results1 vs) s.sto s.fz
  | .ret, s => ∃ vs, resAll s x.res = some vs ∧ R (results1 vs) s.sto s.fz
  | .exit _, _ => False

/-- A function, with the blocks that its caller shares with it. -/
def Does (F : Tab) (f : FuncId) (args : List PV) (sto : Sto) (fz : List Nat) (R : PV → Sto → List Nat → Prop) : Prop :=
  ∃ n v s z, run F n (.func f args sto fz) = some (.func v s z) ∧ R v s z

theorem Does.of {f : FuncId} {x : XFunc} {args : List PV} {sto : Sto} {fz : List Nat} {R : PV → Sto → List Nat → Prop}
    (hf : F f = some (.code x)) (hn : Nat.beq args.length x.nargs = true)
    (h : WP F x.code { env := envOf 0 args, sto, fz, kn := sto.length } (fnPost x R)) : Does F f args sto fz R := by
  obtain ⟨n, e, s, he, hq⟩ := h
  cases e with
  | normal =>
    obtain ⟨vs, hv, hr⟩ := hq
    exact ⟨n + 1, _, _, _, by rw [run_succ]; simp only [step, hf, hn, he, hv, if_true]; rfl, hr⟩
  | ret =>
    obtain ⟨vs, hv, hr⟩ := hq
    exact ⟨n + 1, _, _, _, by rw [run_succ]; simp only [step, hf, hn, he, hv, if_true]; rfl, hr⟩
  | exit i => exact hq.elim

/-- A pure function: on pure arguments it gives a pure value, without ('Pure') or with slices ('PureF'). -/
def Pure (F : Tab) (f : FuncId) (args : List PV) (v : PV) : Prop :=
  (∀ k p, F f ≠ some (.prim k p)) ∧ Does F f args [] [] fun u _ _ => u.noref = true ∧ u = v
def PureF (F : Tab) (f : FuncId) (args : List PV) (v : PV) : Prop :=
  (∀ k p, F f ≠ some (.prim k p)) ∧ Does F f args [] [] fun u s _ => u.noref = false ∧ imF s u = some v

theorem Pure.of {f : FuncId} {x : XFunc} {args : List PV} {v : PV}
    (hf : F f = some (.code x)) (hn : Nat.beq args.length x.nargs = true)
    (h : WP F x.code { env := envOf 0 args, sto := [], fz := [], kn := 0 } (fnPost x fun u _ _ => u.noref = true ∧ u = v)) :
    Pure F f args v := ⟨fun k p e => by (rw [hf] at e; cases e), Does.of hf hn h⟩

theorem PureF.of {f : FuncId} {x : XFunc} {args : List PV} {v : PV}
    (hf : F f = some (.code x)) (hn : Nat.beq args.length x.nargs = true)
    (h : WP F x.code { env := envOf 0 args, sto := [], fz := [], kn := 0 } (fnPost x fun u s _ => u.noref = false ∧ imF s u = some v)) :
    PureF F f args v := ⟨fun k p e => by (rw [hf] at e; cases e), Does.of hf hn h⟩

theorem Pure.callPure {f : FuncId} {as args : List PV} {sto : Sto} {fz : List Nat} {v : PV} (h : Pure F f args v)
    (ha : exL sto (exBx sto deep) as = some args) :
    ∃ n, Vm.callPure F (run F n) false f as sto fz = some { v, rd := toksL (toksBx sto deep) as } := by
  obtain ⟨hp, n, u, s, z, hr, h1, h2⟩ := h
  subst h2
  refine ⟨n, ?_⟩
  simp only [Vm.callPure, ha]
  cases hf : F f with
  | none => simp [hr, h1]
  | some en =>
    cases en with
    | prim k p => exact absurd hf (hp k p)
    | code x => simp [hr, h1]

theorem PureF.callPure {f : FuncId} {as args : List PV} {sto : Sto} {fz : List Nat} {v : PV} (h : PureF F f args v)
    (ha : exL sto (exBx sto deep) as = some args) :
    ∃ n, Vm.callPure F (run F n) false f as sto fz = some { v, rd := toksL (toksBx sto deep) as, fr := toksL (toksBx sto deep) as } := by
  obtain ⟨hp, n, u, s, z, hr, h1, h2⟩ := h
  refine ⟨n, ?_⟩
  simp only [Vm.callPure, ha]
  cases hf : F f with
  | none => simp [hr, h1, h2]
  | some en =>
    cases en with
    | prim k p => exact absurd hf (hp k p)
    | code x => simp [hr, h1, h2]

theorem WO.pure {d : Option Nat} {g : Option (Nat × Bool)} {f : FuncId} {as : List Opd} {r : List XOper} {st : St} {tr : List Tr} {Q : St → List Tr → Prop}
    {args : List PV} {v : PV} (h : Pure F f args v)
    (hw : wanted g st.env = some true) (ha : exL st.sto (exBx st.sto deep) (evs st.env as) = some args)
    (k : WO F r ((XR.loc { v, rd := toksL (toksBx st.sto deep) (evs st.env as) }).next d st) ((XR.loc { v, rd := toksL (toksBx st.sto deep) (evs st.env as) }).tr st.sto.length :: tr) Q) :
    WO F (⟨d, .call .pur f as, g⟩ :: r) st tr Q := by
  obtain ⟨n, hn⟩ := h.callPure (fz := st.fz) ha
  exact WO.call _ hw ⟨n, by simp only [evX, hn]; rfl⟩ rfl k

theorem WO.pureF {d : Option Nat} {g : Option (Nat × Bool)} {f : FuncId} {as : List Opd} {r : List XOper} {st : St} {tr : List Tr} {Q : St → List Tr → Prop}
    {args : List PV} {v : PV} (h : PureF F f args v)
    (hw : wanted g st.env = some true) (ha : exL st.sto (exBx st.sto deep) (evs st.env as) = some args)
    (k : WO F r ((XR.loc { v, rd := toksL (toksBx st.sto deep) (evs st.env as), fr := toksL (toksBx st.sto deep) (evs st.env as) }).next d st)
      ((XR.loc { v, rd := toksL (toksBx st.sto deep) (evs st.env as), fr := toksL (toksBx st.sto deep) (evs st.env as) }).tr st.sto.length :: tr) Q) :
    WO F (⟨d, .call .pur f as, g⟩ :: r) st tr Q := by
  obtain ⟨n, hn⟩ := h.callPure (fz := st.fz) ha
  exact WO.call _ hw ⟨n, by simp only [evX, hn]; rfl⟩ rfl k

end Go.Vm

/- The look at an operation of the model: is the logical machine's operation its own? -/
namespace Go.Vm

mutual
def cval : PV → Value → Bool
  | .int k n, .int l m => kindEq k l && n == m
  | .bool a, .bool b => a == b
  | .sl _ _ [], .slice none 0 0 => true
  | .agg cs, .agg vs => cvalL cs vs.toList
  | .nilf, .nilFunc => true
  | .undef, _ => true
  | _, _ => false
def cvalL : List PV → List Value → Bool
  | [], [] => true
  | x :: xs, v :: vs => cval x v && cvalL xs vs
  | _, _ => false
end

def chkOpd : Opd → Operand → Bool
  | .t n, .tmp m => n == m
  | .c v, .const u => cval v u
  | .c (.clo f [] []), .func g => f == g
  | .c .undef, _ => true
  | _, _ => false

def chkOpds : List Opd → List Operand → Bool
  | [], [] => true
  | x :: xs, o :: os => chkOpd x o && chkOpds xs os
  | _, _ => false

def chkOpo : Option Opd → Option Operand → Bool
  | none, none => true
  | some x, some o => chkOpd x o
  | _, _ => false

section
variable (P : Program)

def isRowT (t : TypeId) : Bool :=
  match P.underlying t with
  | some (.struct _) | some (.array _ _) => true
  | _ => false

def szIs (t : TypeId) (n : Nat) : Bool := (P.info? t).any fun i => i.size == n
def bytesOk (t : TypeId) : Bool := (P.info? t).any fun i => Nat.ble i.bytes 1048576

/-- How a variable of a type is read: whole, or as one cell. -/
def aggIs (t : TypeId) (agg : Option Nat) : Bool :=
  (P.underlying t).isSome && match agg with
  | some n => isRowT P t && szIs P t n
  | none => !isRowT P t && szIs P t 1

def sliceOf (t : TypeId) (esz : Nat) : Bool :=
  match P.underlying t with
  | some (.slice e) => szIs P e esz
  | _ => false

def isSliceT (t : TypeId) : Bool :=
  match P.underlying t with
  | some (.slice _) => true
  | _ => false

def arrayIs (t : TypeId) (n esz : Nat) : Bool :=
  match P.underlying t with
  | some (.array m e) => m == n && szIs P e esz
  | _ => false

def zeroIs (t : TypeId) (cells : List PV) : Bool :=
  match (P.info? t).bind (·.zero) with
  | some v => cvalL cells v.cells.toList
  | none => false

/-- The offsets of the leaves of a type that is compared cell by cell: all of them in order. -/
def flat : Nat → TypeId → Option Nat
  | 0, _ => none
  | d + 1, t =>
    match P.underlying t with
    | some (.int _) => if szIs P t 1 then some 1 else none
    | some (.struct fs) =>
      if P.stoodInHeld t then none else
      match fs.toList.foldl (fun r f => match r with
        | some n => if f.offset == n && f.name != "_" then (match flat d f.type with
          | some m => if szIs P f.type m then some (n + m) else none
          | none => none) else none
        | none => none) (some 0) with
      | some n => if szIs P t n then some n else none
      | none => none
    | _ => none

def chkParts (place : Nat → Option (Nat × Nat)) : List (Nat × Nat × Opd) → List (Nat × Operand) → Bool
  | [], [] => true
  | (off, sz, x) :: r, (i, o) :: s => (match place i with | some (a, b) => a == off && b == sz | none => false) && chkOpd x o && chkParts place r s
  | _, _ => false

def chkRowParts : List (Nat × Opd) → List (Nat × Operand) → Bool
  | [], [] => true
  | (i, x) :: r, (j, o) :: s => i == j && chkOpd x o && chkRowParts r s
  | _, _ => false

def placeOf (t : TypeId) : Nat → Option (Nat × Nat) :=
  match P.underlying t with
  | some (.struct fs) => fun i => (fs[i]?).bind fun f => (P.info? f.type).map fun j => (f.offset, j.size)
  | some (.array _ e) => fun i => (P.info? e).map fun j => (i * j.size, j.size)
  | _ => fun _ => none

/-- A map's key: one number, or n of them. -/
def keyIs (t : TypeId) (n : Option Nat) : Bool :=
  match n with
  | none => (match P.underlying t with | some (.int _) => true | _ => false)
  | some n => isRowT P t && flat P 100 t == some n

def hasBody (f : FuncId) : Bool := (P.funcs[f]?).any fun fn => fn.body.isSome && !(fn.name == "runtime.NumGoroutine")

/-- Op by op. -/
def chkOp (prims : FuncId → Bool) (ty : TypeId) : XOp → Op → Bool
  | .mov x, .move o => chkOpd x o
  | .mov x, .assign o => chkOpd x o
  | .pick c a b, .pick d e f => chkOpd c d && chkOpd a e && chkOpd b f
  | .bin op x y, .binOp op' _ a b _ => op == op' && chkOpd x a && chkOpd y b
  | .binb neg x y, .binOp op t a b _ => (if neg then op == .neq else op == .eql) && P.underlying t matches some .bool && chkOpd x a && chkOpd y b
  | .eqc n neg x y, .binOp op t a b _ => (if neg then op == .neq else op == .eql) && isRowT P t && flat P 100 t == some n && !P.eqGuardType P.depth t && chkOpd x a && chkOpd y b
  | .un op x, .unOp op' _ a => op == op' && chkOpd x a
  | .conv k x, .convert s d a => (P.underlying s).isSome && (match P.underlying d with | some (.int l) => kindEq k l | _ => false) && chkOpd x a
  | .len x, .call { callee := .builtin .len, args, argTypes } => (match argTypes[0]? with | some t => isSliceT P t | none => false) && chkOpds [x] args.toList
  | .lenc n, .call { callee := .builtin .len, args, argTypes } => !args.isEmpty && (match argTypes[0]? with
      | some t => (match P.underlying t with
        | some (.array m _) => m == n
        | some (.pointer e) => (match P.underlying e with | some (.array m _) => m == n | _ => false)
        | _ => false)
      | none => false)
  | .box x, .box _ a => chkOpd x a
  | .alloc cells, .alloc t => zeroIs P t cells
  | .build zero parts, .build t ps => zeroIs P t zero && isRowT P t && chkParts (placeOf P t) parts ps.toList
      && (match P.underlying t with | some (.struct fs) => fs.all fun f => (P.info? f.type).isSome | some (.array _ e) => (P.info? e).isSome | _ => false)
  | .mkrow esz n zero parts, .buildSlice t m ps => n == m && (match P.underlying t with | some (.slice e) => szIs P e esz && zeroIs P e zero && zero.length == esz && !(esz == 0) | _ => false) && Nat.ble (n * esz) 1048576 && zero.all PV.plain && chkRowParts parts ps.toList
  | .load agg p, .load t a => aggIs P t agg && chkOpd p a
  | .store sz p v, .store t a b => szIs P t sz && chkOpd p a && chkOpd v b
  | .nilc x, .nilCheck a => chkOpd x a
  | .fadr off p, .fieldAddr t a f => (match P.underlying t with
      | some (.struct fs) => (match fs[f]? with | some g => g.offset == off && (P.info? g.type).any fun i => !(i.size == 0) | none => false)
      | _ => false) && chkOpd p a
  | .fld agg off x, .field t a f => (match P.underlying t with
      | some (.struct fs) => (match fs[f]? with | some g => g.offset == off && aggIs P g.type agg | none => false)
      | _ => false) && chkOpd x a
  | .iadr esz x i, .indexAddr t a j => sliceOf P t esz && chkOpd x a && chkOpd i j
  | .iadra n esz p i, .indexAddr t a j => arrayIs P t n esz && chkOpd p a && chkOpd i j
  | .idx n esz agg x i, .index t a j => (match P.underlying t with | some (.array m e) => m == n && szIs P e esz && aggIs P e agg | _ => false) && chkOpd x a && chkOpd i j
  | .sidx x i, .index t a j => P.underlying t matches some .string && chkOpd x a && chkOpd i j
  | .slc esz x l h m, .slice t a b c d => (m.isNone || h.isSome) && sliceOf P t esz && chkOpd x a && chkOpo l b && chkOpo h c && chkOpo m d
  | .mks esz zero l c, .makeSlice t a b => (match P.underlying t with | some (.slice e) => szIs P e esz && zeroIs P e zero && zero.length == esz && bytesOk P e && !(esz == 0) | _ => false) && zero.all PV.plain && chkOpd l a && chkOpd c b
  | .mkf fn a b, .makeFunc (.func g) c d => fn == g && chkOpds a c.toList && chkOpds b d.toList
  | .mkm, .makeMap _ none => true
  | .ext i x, .extract a j => i == j && chkOpd x a
  | .append esz x y, .call { callee := .builtin .append, args, argTypes } => (match argTypes.toList with
      | [t, u] => (match P.underlying t with | some (.slice e) => szIs P e esz && bytesOk P e && !(esz == 0) && (P.info? e).any (fun i => i.zero.any fun z => z.cells.size == esz) | _ => false) && isSliceT P u
      | _ => false) && chkOpds [x, y] args.toList
  | .lookup n zero ok m k, .lookup t a b ok' => ok == ok' && (match P.underlying t with | some (.map kt et) => keyIs P kt n && (match (P.info? et).bind (·.zero) with | some v => cval zero v | none => false) | _ => false) && chkOpd m a && chkOpd k b
  | .mapu n m k v, .mapUpdate t a b c => (match P.underlying t with | some (.map kt _) => keyIs P kt n | _ => false) && chkOpd m a && chkOpd k b && chkOpd v c
  | .copy esz x y, .call { callee := .builtin .copy, args, argTypes } => (match argTypes.toList with | [t, u] => sliceOf P t esz && isSliceT P u | _ => false) && chkOpds [x, y] args.toList
  | .clear esz zero x, .call { callee := .builtin .clear, args, argTypes } => (match argTypes.toList with
      | [t] => (match P.underlying t with | some (.slice e) => szIs P e esz && zeroIs P e zero && zero.length == esz && zero.all PV.plain | _ => false)
      | _ => false) && chkOpds [x] args.toList
  | .mm isMax x xs, .call { callee := .builtin b, args, argTypes := _ } => (if isMax then b == .max else b == .min) && chkOpds (x :: xs) args.toList
  | .call _ f args, .call { callee := .value (.func g), args := as, argTypes := _ } => f == g && (prims f || hasBody P f) && chkOpds args as.toList
  | .callv x args, .call { callee := .value (.tmp t), args := as, argTypes := _ } => chkOpd x (.tmp t) && chkOpds args as.toList
  | .bad, _ => true
  | _, _ => ty == 0 && false

end

end Go.Vm

/- What a pure value says of a value of the model, a block of the call's own of the memory. -/
namespace Go.Vm

/-- Where a block of the call's own lies: the model's block, where it begins there, the size of a row, how many rows, how many cells the model's block has. -/
structure LI where
  blk : Nat
  sh : Nat
  esz : Nat
  n : Nat
  sz : Nat

abbrev Im := Nat → Option Obj
abbrev Loc := Nat → Option LI

def imCell (im : Im) (b o : Nat) : Option Value :=
  match im b with
  | some (.cells c _ _) => c[o]?
  | _ => none

def plainVal : PV → Option Value
  | .int k n => some (.int k n)
  | .bool b => some (.bool b)
  | .str s => some (.string s)
  | _ => none

/-- Rows of plain cells, as 'get' finds them from a place on. -/
def RowsAt (get : Nat → Option Value) (sh esz : Nat) (rows : List Row) : Prop :=
  ∀ (i : Nat) (r : Row), rows[i]? = some r → r.length = esz ∧ ∀ (j : Nat) (c : PV), r[j]? = some c → ∃ v, plainVal c = some v ∧ get (sh + i * esz + j) = some v

mutual
inductive VR (im : Im) (loc : Loc) : PV → Value → Prop
  | undef (v : Value) : VR im loc .undef v
  | nul : VR im loc .nul Go.undef
  | int (k : IntKind) (n : Int) : VR im loc (.int k n) (.int k n)
  | bool (b : Bool) : VR im loc (.bool b) (.bool b)
  | str (s : ByteArray) : VR im loc (.str s) (.string s)
  | agg (cs : List PV) (vs : List Value) (h : VRL im loc cs vs) : VR im loc (.agg cs) (.agg ⟨vs⟩)
  | tup (cs : List PV) (vs : List Value) (h : VRL im loc cs vs) : VR im loc (.tup cs) (.tuple ⟨vs⟩)
  | sl (esz : Nat) (clip : Bool) (rows : List Row) (a : Option Addr) (cap : Nat) (hc : rows.length ≤ cap) (hk : clip = true → cap = rows.length)
      (h : rows ≠ [] → ∃ b o, a = some ⟨b, o, none⟩ ∧ RowsAt (imCell im b) o esz rows) : VR im loc (.sl esz clip rows) (.slice a rows.length cap)
  | own (t esz off len cap : Nat) (ex : Bool) (li : LI) (a : Option Addr) (cap' : Nat) (hl : loc t = some li) (he : li.esz = esz) (hn : off + cap ≤ li.n) (hc : len ≤ cap)
      (hx : cap ≤ cap') (hk : ex = true → cap' = cap)
      (h : cap' = 0 ∨ (li.n ≠ 0 ∧ a = some ⟨li.blk, li.sh + off * esz, none⟩ ∧ li.sh + (off + cap') * esz ≤ li.sz)) : VR im loc (.own t esz off len cap ex) (.slice a len cap')
  | ptr (t esz row off : Nat) (li : LI) (hl : loc t = some li) (he : li.esz = esz) (hn : row < li.n) :
      VR im loc (.ptr t esz row off) (.pointer (some ⟨li.blk, li.sh + row * esz + off, none⟩))
  | rptr (cs : List PV) (off b o : Nat) (vs : List Value) (h : VRL im loc cs vs) (hv : ∀ (j : Nat) (v : Value), vs[j]? = some v → imCell im b (o + j) = some v) :
      VR im loc (.rptr cs off) (.pointer (some ⟨b, o + off, none⟩))
  | mp (t : Nat) (li : LI) (hl : loc t = some li) : VR im loc (.mp t) (.map (some li.blk))
  | clo (fn : FuncId) (a b : List PV) (as bs : List Value) (ha : VRL im loc a as) (hb : VRL im loc b bs) : VR im loc (.clo fn a b) (.func (.func fn) ⟨as⟩ ⟨bs⟩)
  | nilf : VR im loc .nilf .nilFunc
inductive VRL (im : Im) (loc : Loc) : List PV → List Value → Prop
  | nil : VRL im loc [] []
  | cons (x : PV) (v : Value) (xs : List PV) (vs : List Value) (h : VR im loc x v) (hs : VRL im loc xs vs) : VRL im loc (x :: xs) (v :: vs)
end

def ImLe (im im' : Im) : Prop := ∀ b o, im b = some o → im' b = some o
def LocLe (loc loc' : Loc) : Prop := ∀ t li, loc t = some li → loc' t = some li

theorem ImLe.refl (im : Im) : ImLe im im := fun _ _ h => h
theorem ImLe.trans {a b c : Im} (h : ImLe a b) (k : ImLe b c) : ImLe a c := fun x o e => k x o (h x o e)
theorem LocLe.refl (loc : Loc) : LocLe loc loc := fun _ _ h => h
theorem LocLe.trans {a b c : Loc} (h : LocLe a b) (k : LocLe b c) : LocLe a c := fun x o e => k x o (h x o e)

theorem ImLe.cell {im im' : Im} (h : ImLe im im') {b o : Nat} {v : Value} (hc : imCell im b o = some v) : imCell im' b o = some v := by
  unfold imCell at hc ⊢
  cases hb : im b with
  | none => rw [hb] at hc; cases hc
  | some x => rw [hb] at hc; rw [h b x hb]; exact hc

theorem RowsAt.mono {g g' : Nat → Option Value} {sh esz : Nat} {rows : List Row} (h : RowsAt g sh esz rows) (hg : ∀ k v, g k = some v → g' k = some v) :
    RowsAt g' sh esz rows := by
  intro i r hr
  obtain ⟨h1, h2⟩ := h i r hr
  exact ⟨h1, fun j c hc => let ⟨v, hv, hw⟩ := h2 j c hc; ⟨v, hv, hg _ _ hw⟩⟩

mutual
theorem VR.mono {im im' : Im} {loc loc' : Loc} (hi : ImLe im im') (hl : LocLe loc loc') : ∀ {x : PV} {v : Value}, VR im loc x v → VR im' loc' x v
  | _, _, .undef v => .undef v
  | _, _, .nul => .nul
  | _, _, .int k n => .int k n
  | _, _, .bool b => .bool b
  | _, _, .str s => .str s
  | _, _, .agg cs vs h => .agg cs vs (VRL.mono hi hl h)
  | _, _, .tup cs vs h => .tup cs vs (VRL.mono hi hl h)
  | _, _, .sl esz clip rows a cap hc hk h => .sl esz clip rows a cap hc hk fun hne => let ⟨b, o, ha, hr⟩ := h hne; ⟨b, o, ha, hr.mono fun _ _ e => hi.cell e⟩
  | _, _, .own t esz off len cap ex li a cap' h1 h2 h3 h4 h5 h6 h7 => .own t esz off len cap ex li a cap' (hl _ _ h1) h2 h3 h4 h5 h6 h7
  | _, _, .ptr t esz row off li h1 h2 h3 => .ptr t esz row off li (hl _ _ h1) h2 h3
  | _, _, .rptr cs off b o vs h hv => .rptr cs off b o vs (VRL.mono hi hl h) fun j v e => hi.cell (hv j v e)
  | _, _, .mp t li h => .mp t li (hl _ _ h)
  | _, _, .clo fn a b as bs ha hb => .clo fn a b as bs (VRL.mono hi hl ha) (VRL.mono hi hl hb)
  | _, _, .nilf => .nilf
theorem VRL.mono {im im' : Im} {loc loc' : Loc} (hi : ImLe im im') (hl : LocLe loc loc') : ∀ {x : List PV} {v : List Value}, VRL im loc x v → VRL im' loc' x v
  | _, _, .nil => .nil
  | _, _, .cons x v xs vs h hs => .cons x v xs vs (VR.mono hi hl h) (VRL.mono hi hl hs)
end

theorem VRL.length {im : Im} {loc : Loc} : ∀ {x : List PV} {v : List Value}, VRL im loc x v → x.length = v.length
  | _, _, .nil => rfl
  | _, _, .cons _ _ _ _ _ hs => by simp [hs.length]

theorem VRL.get {im : Im} {loc : Loc} : ∀ {xs : List PV} {vs : List Value}, VRL im loc xs vs → ∀ (i : Nat) (x : PV), xs[i]? = some x → ∃ v, vs[i]? = some v ∧ VR im loc x v
  | _, _, .nil, i, x, h => by simp at h
  | _, _, .cons y v xs vs h hs, 0, x, e => by simp at e; subst e; exact ⟨v, rfl, h⟩
  | _, _, .cons y v xs vs h hs, i + 1, x, e => by
    obtain ⟨u, hu, hr⟩ := hs.get i x (by simpa using e)
    exact ⟨u, by simpa using hu, hr⟩

theorem VRL.append {im : Im} {loc : Loc} : ∀ {xs : List PV} {vs : List Value}, VRL im loc xs vs → ∀ {ys : List PV} {us : List Value}, VRL im loc ys us → VRL im loc (xs ++ ys) (vs ++ us)
  | _, _, .nil, _, _, k => k
  | _, _, .cons y v xs vs h hs, _, _, k => .cons _ _ _ _ h (hs.append k)

theorem VRL.take {im : Im} {loc : Loc} : ∀ {xs : List PV} {vs : List Value}, VRL im loc xs vs → ∀ n, VRL im loc (xs.take n) (vs.take n)
  | _, _, .nil, n => by simp; exact .nil
  | _, _, .cons y v xs vs h hs, 0 => .nil
  | _, _, .cons y v xs vs h hs, n + 1 => .cons _ _ _ _ h (hs.take n)

theorem VRL.drop {im : Im} {loc : Loc} : ∀ {xs : List PV} {vs : List Value}, VRL im loc xs vs → ∀ n, VRL im loc (xs.drop n) (vs.drop n)
  | _, _, .nil, n => by simp; exact .nil
  | _, _, .cons y v xs vs h hs, 0 => .cons _ _ _ _ h hs
  | _, _, .cons y v xs vs h hs, n + 1 => hs.drop n

/-- Cell by cell. -/
theorem VRL.of {im : Im} {loc : Loc} : ∀ (xs : List PV) (vs : List Value), xs.length = vs.length → (∀ (i : Nat) (x : PV) (v : Value), xs[i]? = some x → vs[i]? = some v → VR im loc x v) → VRL im loc xs vs
  | [], [], _, _ => .nil
  | x :: xs, v :: vs, hl, h => .cons x v xs vs (h 0 x v rfl rfl) (VRL.of xs vs (by simpa using hl) fun i a b ha hb => h (i + 1) a b (by simpa using ha) (by simpa using hb))

theorem VR.plain {im : Im} {loc : Loc} {x : PV} {v : Value} (h : VR im loc x v) (hp : x.plain = true) : plainVal x = some v := by
  cases h <;> first | rfl | cases hp

theorem VR.of_plain {im : Im} {loc : Loc} {x : PV} {v : Value} (h : plainVal x = some v) : VR im loc x v := by
  cases x <;> simp only [plainVal, Option.some.injEq] at h <;> first | (subst h; constructor) | cases h

theorem VR.cells {im : Im} {loc : Loc} {x : PV} {v : Value} (h : VR im loc x v) (hs : ∀ c ∈ x.cells, c.isOne = true) : VRL im loc x.cells v.cells.toList := by
  have one : ∀ {y : PV} {u : Value}, VR im loc y u → y.isOne = true → (∀ us, u ≠ .agg us) := by
    intro y u hy ho us e
    subst e
    cases hy <;> cases ho
  cases h with
  | agg cs vs h => exact h
  | undef v => have := hs .undef (by simp [PV.cells]); cases this
  | nul => have := hs .nul (by simp [PV.cells]); cases this
  | tup cs vs h => have := hs (.tup cs) (by simp [PV.cells]); cases this
  | int k n => exact .cons _ _ _ _ (.int k n) .nil
  | bool b => exact .cons _ _ _ _ (.bool b) .nil
  | str s => exact .cons _ _ _ _ (.str s) .nil
  | sl esz clip rows a cap hc hk h => exact .cons _ _ _ _ (.sl esz clip rows a cap hc hk h) .nil
  | own t esz off len cap ex li a cap' h1 h2 h3 h4 h5 h6 h7 => exact .cons _ _ _ _ (.own t esz off len cap ex li a cap' h1 h2 h3 h4 h5 h6 h7) .nil
  | ptr t esz row off li h1 h2 h3 => exact .cons _ _ _ _ (.ptr t esz row off li h1 h2 h3) .nil
  | rptr cs off b o vs h hv => exact .cons _ _ _ _ (.rptr cs off b o vs h hv) .nil
  | mp t li h => exact .cons _ _ _ _ (.mp t li h) .nil
  | clo fn a b as bs ha hb => exact .cons _ _ _ _ (.clo fn a b as bs ha hb) .nil
  | nilf => exact .cons _ _ _ _ .nilf .nil

/-- A value that may lie in one cell. -/
theorem VR.oneCell {im : Im} {loc : Loc} {x : PV} {v : Value} (h : VR im loc x v) (hs : x.isOne = true) : (∀ us, v ≠ .agg us) ∧ ∀ us, v ≠ .tuple us := by
  cases h <;> first | (simp [PV.isOne] at hs; done) | simp

/-! ### blocks -/

def valOf : PV → Option Value
  | .agg cs => (cs.mapM plainVal).map fun vs => .agg ⟨vs⟩
  | x => plainVal x

def MapRel : List (PV × PV) → List MapEntry → Prop
  | [], [] => True
  | (k, v) :: r, e :: r' => valOf k = some e.key ∧ valOf v = some e.val ∧ MapRel r r'
  | _, _ => False

def BR (im : Im) (loc : Loc) (w : World) (li : LI) : Blk → Prop
  | .arr e rows => li.esz = e ∧ li.n = rows.length ∧ (rows ≠ [] → ∃ cs el, w.heap[li.blk]? = some (.cells cs el (0, 0)) ∧ cs.size = li.sz ∧ li.sh + rows.length * e ≤ li.sz ∧ RowsAt (fun k => cs[k]?) li.sh e rows)
  | .box cells => li.esz = cells.length ∧ li.n = 1 ∧ li.sh = 0 ∧ ∃ vs el, w.heap[li.blk]? = some (.cells ⟨vs⟩ el (0, 0)) ∧ vs.length = li.sz ∧ VRL im loc cells vs
  | .map es => ∃ ents clock, w.heap[li.blk]? = some (.map ents clock) ∧ MapRel es ents.toList
  | .dead => True

theorem BR.mono {im im' : Im} {loc loc' : Loc} {w w' : World} {li : LI} {k : Blk} (h : BR im loc w li k) (hi : ImLe im im') (hl : LocLe loc loc')
    (hw : w'.heap[li.blk]? = w.heap[li.blk]?) : BR im' loc' w' li k := by
  cases k with
  | arr e rows => exact ⟨h.1, h.2.1, fun hne => let ⟨cs, el, h1, h2, h3⟩ := h.2.2 hne; ⟨cs, el, by rw [hw]; exact h1, h2, h3⟩⟩
  | box cells => obtain ⟨h1, h2, h3, vs, el, h4, h5, h6⟩ := h; exact ⟨h1, h2, h3, vs, el, by rw [hw]; exact h4, h5, h6.mono hi hl⟩
  | map es => obtain ⟨en, cl, h1, h2⟩ := h; exact ⟨en, cl, by rw [hw]; exact h1, h2⟩
  | dead => trivial

theorem BR.lt {im : Im} {loc : Loc} {w : World} {li : LI} {k : Blk} (h : BR im loc w li k) (hs : k.solid = true) : li.blk < w.heap.size := by
  have get : ∀ {o : Obj}, w.heap[li.blk]? = some o → li.blk < w.heap.size := fun e => by
    rcases Nat.lt_or_ge li.blk w.heap.size with h | h
    · exact h
    · simp [Array.getElem?_eq_none h] at e
  cases k with
  | arr e rows =>
    cases rows with
    | nil => cases hs
    | cons r rs => obtain ⟨cs, el, h1, _⟩ := h.2.2 (by simp); exact get h1
  | box cells => obtain ⟨_, _, _, vs, el, h4, _⟩ := h; exact get h4
  | map es => obtain ⟨en, cl, h1, h2⟩ := h; exact get h1
  | dead => cases hs

/-- The blocks of the call's own, and the memory that nobody writes to, in a world. -/
structure SR (im : Im) (loc : Loc) (sto : Sto) (fz : List Nat) (w : World) : Prop where
  im_ok : ∀ b o, im b = some o → w.heap[b]? = some o
  blk : ∀ t li, loc t = some li → ∃ k, sto[t]? = some k ∧ BR im loc w li k
  excl : ∀ t u li lj k k', loc t = some li → loc u = some lj → sto[t]? = some k → sto[u]? = some k' → k.solid = true → k'.solid = true → li.blk = lj.blk → t = u
  free : ∀ t li k, loc t = some li → sto[t]? = some k → k.solid = true → has fz t = false → im li.blk = none

/-- The temporaries of a frame. -/
def ER (im : Im) (loc : Loc) (e : Env) (tmps : Array Value) : Prop := ∀ t, VR im loc (lk t e) (tmps.getD t Go.undef)

theorem ER.mono {im im' : Im} {loc loc' : Loc} (hi : ImLe im im') (hl : LocLe loc loc') {e : Env} {tmps : Array Value} (h : ER im loc e tmps) : ER im' loc' e tmps :=
  fun t => (h t).mono hi hl

theorem lk_cons (t s : Nat) (v : PV) (e : Env) : lk t ((s, v) :: e) = if s = t then v else lk t e := by
  simp only [lk]
  by_cases h : s = t <;> simp [h]

theorem ER.put {im : Im} {loc : Loc} {e : Env} {tmps : Array Value} (h : ER im loc e tmps) {d : Nat} {x : PV} {v : Value} (hd : d < tmps.size) (hv : VR im loc x v) :
    ER im loc ((d, x) :: e) (tmps.setIfInBounds d v) := by
  intro t
  rw [lk_cons]
  by_cases hdt : d = t
  · subst hdt
    simpa [hd] using hv
  · rw [if_neg hdt]
    have := h t
    simpa [Array.getElem?_setIfInBounds, hdt] using this

end Go.Vm

/- Renaming the blocks. -/
namespace Go.Vm

/-! ### renaming -/

theorem idxOf_get {t : Nat} : ∀ {m : List Nat} {u : Nat}, idxOf t m = some u → m[u]? = some t
  | [], u, h => by simp [idxOf] at h
  | s :: r, u, h => by
    simp only [idxOf] at h
    split at h
    · rename_i e
      injection h with h; subst h
      have : s = t := by simpa using e
      simp [this]
    · rw [Option.map_eq_some_iff] at h
      obtain ⟨v, hv, rfl⟩ := h
      simpa using idxOf_get hv

section
variable {im : Im} {loc loc1 : Loc} {m : List Nat}

/-- The new numbers name the old blocks. -/
def Ren (m : List Nat) (loc loc1 : Loc) : Prop := ∀ (u t : Nat), m[u]? = some t → loc1 u = loc t

mutual
theorem ren_ok (hm : Ren m loc loc1) : ∀ {x y : PV} {v : Value}, VR im loc x v → ren m x = some y → VR im loc1 y v
  | .undef, y, v, h, hr => by simp only [ren, Option.some.injEq] at hr; subst hr; exact .undef _
  | .nul, y, v, h, hr => by simp only [ren, Option.some.injEq] at hr; subst hr; cases h; exact .nul
  | .int k n, y, v, h, hr => by simp only [ren, Option.some.injEq] at hr; subst hr; cases h; exact .int _ _
  | .bool b, y, v, h, hr => by simp only [ren, Option.some.injEq] at hr; subst hr; cases h; exact .bool _
  | .str b, y, v, h, hr => by simp only [ren, Option.some.injEq] at hr; subst hr; cases h; exact .str _
  | .nilf, y, v, h, hr => by simp only [ren, Option.some.injEq] at hr; subst hr; cases h; exact .nilf
  | .agg cs, y, v, h, hr => by
    simp only [ren, Option.map_eq_some_iff] at hr
    obtain ⟨cs', h1, rfl⟩ := hr
    cases h with | agg _ vs h => exact .agg _ _ (renL_ok hm h h1)
  | .tup cs, y, v, h, hr => by
    simp only [ren, Option.map_eq_some_iff] at hr
    obtain ⟨cs', h1, rfl⟩ := hr
    cases h with | tup _ vs h => exact .tup _ _ (renL_ok hm h h1)
  | .sl e c rows, y, v, h, hr => by
    simp only [ren, Option.some.injEq] at hr; subst hr
    cases h with | sl _ _ _ a cap h1 h2 h3 => exact .sl _ _ _ a cap h1 h2 h3
  | .own t e off len cap ex, y, v, h, hr => by
    simp only [ren, Option.map_eq_some_iff] at hr
    obtain ⟨u, h1, rfl⟩ := hr
    cases h with | own _ _ _ _ _ _ li a cap' g1 g2 g3 g4 g5 g6 g7 => exact .own _ _ _ _ _ _ li a cap' (by rw [hm u t (idxOf_get h1)]; exact g1) g2 g3 g4 g5 g6 g7
  | .ptr t e row off, y, v, h, hr => by
    simp only [ren, Option.map_eq_some_iff] at hr
    obtain ⟨u, h1, rfl⟩ := hr
    cases h with | ptr _ _ _ _ li g1 g2 g3 => exact .ptr _ _ _ _ li (by rw [hm u t (idxOf_get h1)]; exact g1) g2 g3
  | .rptr cs off, y, v, h, hr => by
    simp only [ren, Option.map_eq_some_iff] at hr
    obtain ⟨cs', h1, rfl⟩ := hr
    cases h with | rptr _ _ b o vs h hv => exact .rptr _ _ b o vs (renL_ok hm h h1) hv
  | .mp t, y, v, h, hr => by
    simp only [ren, Option.map_eq_some_iff] at hr
    obtain ⟨u, h1, rfl⟩ := hr
    cases h with | mp _ li g1 => exact .mp _ li (by rw [hm u t (idxOf_get h1)]; exact g1)
  | .clo f a b, y, v, h, hr => by
    simp only [ren] at hr
    split at hr
    · rename_i a' b' ha hb
      injection hr with hr; subst hr
      cases h with | clo _ _ _ as bs h1 h2 => exact .clo _ _ _ _ _ (renL_ok hm h1 ha) (renL_ok hm h2 hb)
    · cases hr
theorem renL_ok (hm : Ren m loc loc1) : ∀ {x y : List PV} {v : List Value}, VRL im loc x v → renL m x = some y → VRL im loc1 y v
  | [], y, v, h, hr => by simp only [renL, Option.some.injEq] at hr; subst hr; cases h; exact .nil
  | x :: xs, y, v, h, hr => by
    simp only [renL] at hr
    split at hr
    · rename_i x' xs' h1 h2
      injection hr with hr; subst hr
      cases h with | cons _ u _ us g1 g2 => exact .cons _ _ _ _ (ren_ok hm g1 h1) (renL_ok hm g2 h2)
    · cases hr
end

theorem renL_length : ∀ {x y : List PV}, renL m x = some y → y.length = x.length
  | [], y, h => by simp only [renL, Option.some.injEq] at h; subst h; rfl
  | x :: xs, y, h => by
    simp only [renL] at h
    split at h
    · rename_i x' xs' h1 h2
      injection h with h; subst h
      simp [renL_length h2]
    · cases h

theorem renBlk_ok {w : World} {li : LI} {k k' : Blk} (hm : Ren m loc loc1) (hr : renBlk m k = some k') (h : BR im loc w li k) : BR im loc1 w li k' := by
  cases k with
  | arr e rows => simp only [renBlk, Option.some.injEq] at hr; subst hr; exact h
  | map es => simp only [renBlk, Option.some.injEq] at hr; subst hr; exact h
  | dead => simp only [renBlk, Option.some.injEq] at hr; subst hr; trivial
  | box cs =>
    simp only [renBlk, Option.map_eq_some_iff] at hr
    obtain ⟨cs', h1, rfl⟩ := hr
    obtain ⟨g1, g2, g3, vs, el, g4, g5, g6⟩ := h
    exact ⟨by rw [renL_length h1]; exact g1, g2, g3, vs, el, g4, g5, renL_ok hm g6 h1⟩

theorem renBlk_solid {k k' : Blk} (hr : renBlk m k = some k') : k'.solid = k.solid := by
  cases k with
  | arr e rows => simp only [renBlk, Option.some.injEq] at hr; subst hr; rfl
  | map es => simp only [renBlk, Option.some.injEq] at hr; subst hr; rfl
  | dead => simp only [renBlk, Option.some.injEq] at hr; subst hr; rfl
  | box cs =>
    simp only [renBlk, Option.map_eq_some_iff] at hr
    obtain ⟨cs', h1, rfl⟩ := hr
    rfl

theorem renSto_ok {sto : Sto} : ∀ {l : List Nat} {s1 : Sto}, renSto sto m l = some s1 → s1.length = l.length ∧ ∀ (u t : Nat), l[u]? = some t → ∃ k k', sto[t]? = some k ∧ renBlk m k = some k' ∧ s1[u]? = some k'
  | [], s1, h => by simp only [renSto, Option.some.injEq] at h; subst h; exact ⟨rfl, fun u t h => by simp at h⟩
  | t :: ts, s1, h => by
    simp only [renSto] at h
    split at h
    · rename_i b hb
      split at h
      · rename_i b' r h1 h2
        injection h with h; subst h
        obtain ⟨g1, g2⟩ := renSto_ok h2
        refine ⟨by simp [g1], fun u t' ht => ?_⟩
        cases u with
        | zero => simp at ht; subst ht; exact ⟨b, b', hb, h1, rfl⟩
        | succ u => simpa using g2 u t' (by simpa using ht)
      · cases h
    · cases h

end
end Go.Vm

/- Operation by operation: the model's run gives what the logical machine says. First part: what reads no memory. -/
namespace Go.Vm

theorem kindEq_iff {k l : IntKind} : kindEq k l = true ↔ k = l := by
  cases k <;> cases l <;> simp [kindEq]

theorem wrap_id {n : Int} (h1 : -9223372036854775808 ≤ n) (h2 : n < 9223372036854775808) : IntKind.wrap .i64 n = n := by
  simp only [IntKind.wrap, IntKind.bits, IntKind.signed, Bool.true_and]
  have e1 : (2 : Int) ^ 64 = 18446744073709551616 := by decide
  have e2 : (2 : Int) ^ (64 - 1) = 9223372036854775808 := by decide
  simp only [e1, e2, decide_eq_true_eq]
  split <;> omega

theorem wrapF_eq (k : IntKind) (n : Int) : wrapF k n = k.wrap n := by
  unfold wrapF
  split
  · rename_i m
    split
    · rename_i h
      have h : m < 9223372036854775808 := by simpa using h
      have e : Int.ofNat m = (m : Int) := rfl
      exact (wrap_id (by rw [e]; omega) (by rw [e]; omega)).symm
    · rfl
  · rename_i m
    split
    · rename_i h
      have h : m < 9223372036854775808 := by simpa using h
      exact (wrap_id (by omega) (by omega)).symm
    · rfl
  · rename_i m
    simp only [IntKind.wrap, IntKind.bits, IntKind.signed, Bool.false_and]
    have e1 : (2 : Int) ^ 64 = 18446744073709551616 := by decide
    simp only [e1]
    rfl
  · rfl

section
variable {P : Program} {im : Im} {loc : Loc} {w : World}

theorem VR.int_inv {k : IntKind} {n : Int} {v : Value} (h : VR im loc (.int k n) v) : v = .int k n := by cases h; rfl
theorem VR.bool_inv {b : Bool} {v : Value} (h : VR im loc (.bool b) v) : v = .bool b := by cases h; rfl
theorem VR.str_inv {b : ByteArray} {v : Value} (h : VR im loc (.str b) v) : v = .string b := by cases h; rfl
theorem VR.agg_inv {cs : List PV} {v : Value} (h : VR im loc (.agg cs) v) : ∃ vs, v = .agg ⟨vs⟩ ∧ VRL im loc cs vs := by cases h with | agg _ vs h => exact ⟨vs, rfl, h⟩
theorem VR.tup_inv {cs : List PV} {v : Value} (h : VR im loc (.tup cs) v) : ∃ vs, v = .tuple ⟨vs⟩ ∧ VRL im loc cs vs := by cases h with | tup _ vs h => exact ⟨vs, rfl, h⟩

mutual
theorem cval_ok : ∀ {x : PV} {v : Value}, cval x v = true → VR im loc x v
  | .int k n, v, h => by
    cases v <;> simp only [cval] at h <;> first | cases h | skip
    simp only [Bool.and_eq_true, beq_iff_eq, kindEq_iff] at h
    obtain ⟨rfl, rfl⟩ := h; exact .int _ _
  | .bool a, v, h => by
    cases v <;> simp only [cval] at h <;> first | cases h | skip
    rename_i b; have : a = b := by simpa using h
    subst this; exact .bool _
  | .str a, v, h => by simp [cval] at h
  | .sl e c [], v, h => by
    cases v with
    | slice a n cap =>
      cases a with
      | none =>
        cases n with
        | zero =>
          cases cap with
          | zero => exact .sl e c [] none 0 (Nat.zero_le _) (fun _ => rfl) (fun hne => absurd rfl hne)
          | succ c => simp [cval] at h
        | succ n => simp [cval] at h
      | some a => simp [cval] at h
    | _ => simp [cval] at h
  | .sl e c (_ :: _), v, h => by simp [cval] at h
  | .agg cs, v, h => by
    cases v <;> simp only [cval] at h <;> first | cases h | skip
    rename_i vs
    exact .agg cs vs.toList (cvalL_ok h)
  | .nilf, v, h => by
    cases v <;> simp only [cval] at h <;> first | cases h | skip
    exact .nilf
  | .undef, v, _ => .undef v
  | .nul, v, h => by simp [cval] at h
  | .tup _, v, h => by simp [cval] at h
  | .own .., v, h => by simp [cval] at h
  | .ptr .., v, h => by simp [cval] at h
  | .rptr .., v, h => by simp [cval] at h
  | .mp _, v, h => by simp [cval] at h
  | .clo .., v, h => by simp [cval] at h
theorem cvalL_ok : ∀ {x : List PV} {v : List Value}, cvalL x v = true → VRL im loc x v
  | [], [], _ => .nil
  | x :: xs, v :: vs, h => by
    simp only [cvalL, Bool.and_eq_true] at h
    exact .cons _ _ _ _ (cval_ok h.1) (cvalL_ok h.2)
  | [], _ :: _, h => by simp [cvalL] at h
  | _ :: _, [], h => by simp [cvalL] at h
end

theorem ER.opd {e : Env} {a : Act} (h : ER im loc e a.tmps) {x : Opd} {o : Operand} (hc : chkOpd x o = true) : VR im loc (x.ev e) (a.eval o) := by
  unfold chkOpd at hc
  split at hc
  · rename_i n m
    have e : n = m := by simpa using hc
    subst e
    exact h _
  · exact cval_ok hc
  · rename_i f g
    have e : f = g := by simpa using hc
    subst e
    exact .clo _ [] [] [] [] .nil .nil
  · exact .undef _
  · cases hc

/-- 'binE'. -/
theorem run_bin {op : BinOp} {t : TypeId} {a b : Operand} {x y : PV} {u v : Value} {z : PV} (hx : VR im loc x u) (hy : VR im loc y v) (h : binE op x y = some z) :
    ∃ r, (do eqGuard op t a b u v; binOp op t u v : Sem Value).run P w = .ok r w ∧ VR im loc z r := by
  unfold binE at h
  split at h
  · rename_i k a l b
    obtain rfl := hx.int_inv
    obtain rfl := hy.int_inv
    have hg : ∀ (k l : IntKind) (a b : Int) (o p : Operand), (eqGuard op t o p (.int k a) (.int l b)).run P w = .ok () w := by
      intros; unfold eqGuard; cases op <;> simp
    split at h
    · simp only [shiftI] at h
      split at h
      · cases h
      · rename_i hb
        injection h with h; subst h
        refine ⟨_, ?_, .int _ _⟩
        simp only [Sem.run_bind, hg, Result.andThen_ok, binOp, Op.shift, hb, if_false]
        rfl
    · simp only [shiftI] at h
      split at h
      · cases h
      · rename_i hb
        injection h with h; subst h
        refine ⟨_, ?_, .int _ _⟩
        simp only [Sem.run_bind, hg, Result.andThen_ok, binOp, Op.shift, hb, if_false]
        rfl
    · split at h
      · rename_i hshl hshr hk
        have := kindEq_iff.1 hk; subst this
        unfold arith at h
        split at h
        all_goals first
          | (injection h with h; subst h
             first
               | (refine ⟨_, ?_, .int _ _⟩
                  simp only [Sem.run_bind, hg, Result.andThen_ok, binOp, Op.intArith, Op.intBits, wrapF_eq, ne_eq, not_true_eq_false, if_false]
                  rfl)
               | (refine ⟨_, ?_, .bool _⟩
                  simp only [Sem.run_bind, hg, Result.andThen_ok, binOp, Op.intCmp, ne_eq, not_true_eq_false, if_false]
                  rfl))
          | (split at h
             · cases h
             · rename_i hb
               injection h with h; subst h
               refine ⟨_, ?_, .int _ _⟩
               simp only [Sem.run_bind, hg, Result.andThen_ok, binOp, Op.intDiv, wrapF_eq, ne_eq, not_true_eq_false, if_false, hb]
               rfl)
          | cases h
      · cases h
  · cases h

theorem run_binb {neg : Bool} {op : BinOp} {t : TypeId} {p q : Operand} {a b : Bool} (ho : op = if neg then .neq else .eql) (ht : P.underlying t = some .bool) :
    (do eqGuard op t p q (.bool a) (.bool b); binOp op t (.bool a) (.bool b) : Sem Value).run P w = .ok (.bool (if neg then !(a == b) else a == b)) w := by
  have h1 : (Op.equal t (.bool a) (.bool b)).run P w = .ok (a == b) w := run_equalIn_bool' w 9999 t a b ht
  cases neg <;> simp only [Bool.false_eq_true, if_false, if_true] at ho <;> subst ho <;> simp [eqGuard, binOp, h1]

theorem run_un {op : UnOp} {x z : PV} {u : Value} (hx : VR im loc x u) (h : unE op x = some z) : ∃ r, (Op.unary op u).run P w = .ok r w ∧ VR im loc z r := by
  unfold unE at h
  split at h
  · injection h with h; subst h
    obtain rfl := hx.int_inv
    exact ⟨_, rfl, by rw [wrapF_eq]; exact .int _ _⟩
  · injection h with h; subst h
    obtain rfl := hx.bool_inv
    exact ⟨_, rfl, .bool _⟩
  · cases h

theorem run_conv {s d : TypeId} {k k' : IntKind} {n : Int} {ds : TypeDesc} (hs : P.underlying s = some ds) (hd : P.underlying d = some (.int k)) :
    (convert s d (.int k' n)).run P w = .ok (.int k (wrapF k n)) w := by
  simp only [convert, Sem.run_bind, run_underlying hs, run_underlying hd, Result.andThen_ok, wrapF_eq]
  cases ds <;> rfl

theorem isAgg_row {t : TypeId} (h : isRowT P t = true) : (isAgg t).run P w = .ok true w := by
  unfold isRowT at h
  split at h
  · rename_i f hu; simp [isAgg, run_underlying hu]
  · rename_i n f hu; simp [isAgg, run_underlying hu]
  · cases h

theorem isAgg_one {t : TypeId} (hs : (P.underlying t).isSome = true) (h : isRowT P t = false) : (isAgg t).run P w = .ok false w := by
  cases hu : P.underlying t with
  | none => rw [hu] at hs; cases hs
  | some d =>
    unfold isRowT at h
    rw [hu] at h
    cases d <;> first | (simp [isAgg, run_underlying hu]; done) | cases h

theorem szIs_run {t : TypeId} {n : Nat} (h : szIs P t n = true) : (sizeOf t).run P w = .ok n w := by
  unfold szIs at h
  cases hi : P.info? t with
  | none => rw [hi] at h; cases h
  | some i =>
    rw [hi] at h
    have : i.size = n := by simpa using h
    simp [sizeOf, typeInfo, hi, this]

theorem part_agg {agg : Option Nat} {t : TypeId} {off : Nat} {cs : List PV} {vs : List Value} {x : PV} (ha : aggIs P t agg = true) (h : VRL im loc cs vs)
    (hp : part agg off cs = some x) : ∃ v, (Go.part t ⟨vs⟩ off).run P w = .ok v w ∧ VR im loc x v := by
  unfold aggIs at ha
  simp only [Bool.and_eq_true] at ha
  obtain ⟨hs, ha⟩ := ha
  cases agg with
  | some n =>
    simp only [Bool.and_eq_true] at ha
    simp only [part] at hp
    split at hp
    · rename_i hle
      injection hp with hp; subst hp
      refine ⟨.agg ⟨(vs.drop off).take n⟩, ?_, .agg _ _ ((h.drop off).take n)⟩
      simp only [Go.part, Sem.run_bind, isAgg_row ha.1, Result.andThen_ok, if_true, szIs_run ha.2, Sem.run_pure]
      congr 2
      apply Array.ext'
      simp [List.extract_eq_take_drop]
    · cases hp
  | none =>
    simp only [Bool.and_eq_true, Bool.not_eq_true'] at ha
    simp only [part] at hp
    obtain ⟨v, hv, hr⟩ := h.get off x hp
    refine ⟨v, ?_, hr⟩
    simp only [Go.part, Sem.run_bind, isAgg_one hs ha.1, Result.andThen_ok, Bool.false_eq_true, if_false]
    have : (⟨vs⟩ : Array Value)[off]? = some v := by simpa using hv
    simp [this]

theorem loadVar_part {agg : Option Nat} {t : TypeId} {b o off : Nat} {cs : List PV} {vs : List Value} {x : PV} (ha : aggIs P t agg = true) (h : VRL im loc cs vs)
    (hm : ∀ (j : Nat) (v : Value), vs[j]? = some v → w.cell? ⟨b, o + j, none⟩ = some v)
    (hp : part agg off cs = some x) : ∃ v, (loadVar t ⟨b, o + off, none⟩).run P w = .ok v w ∧ VR im loc x v := by
  unfold aggIs at ha
  simp only [Bool.and_eq_true] at ha
  obtain ⟨hs, ha⟩ := ha
  have hadd : ∀ k j : Nat, (⟨b, k, none⟩ : Addr).add j = ⟨b, k + j, none⟩ := by
    intro k j; unfold Addr.add; split
    · rename_i h; subst h; rfl
    · rfl
  cases agg with
  | some n =>
    simp only [Bool.and_eq_true] at ha
    simp only [part] at hp
    split at hp
    · rename_i hle
      injection hp with hp; subst hp
      refine ⟨.agg ⟨(vs.drop off).take n⟩, ?_, .agg _ _ ((h.drop off).take n)⟩
      have hl : ((vs.drop off).take n).length = n := by
        have := h.length
        simp; omega
      have := run_loadCells_list (P := P) w ⟨b, o + off, none⟩ ((vs.drop off).take n) (by
        intro j v hj
        rw [hadd]
        have hj' : j < n := by
          rcases Nat.lt_or_ge j n with h | h
          · exact h
          · rw [List.getElem?_eq_none (by omega)] at hj; cases hj
        rw [List.getElem?_take_of_lt hj', List.getElem?_drop] at hj
        have := hm _ _ hj
        rwa [show o + (off + j) = o + off + j by omega] at this)
      rw [hl] at this
      simp only [loadVar, Sem.run_bind, isAgg_row ha.1, Result.andThen_ok, if_true, szIs_run ha.2, this, Sem.run_pure]
    · cases hp
  | none =>
    simp only [Bool.and_eq_true, Bool.not_eq_true'] at ha
    simp only [part] at hp
    obtain ⟨v, hv, hr⟩ := h.get off x hp
    refine ⟨v, ?_, hr⟩
    simp only [loadVar, Sem.run_bind, isAgg_one hs ha.1, Result.andThen_ok, Bool.false_eq_true, if_false]
    rw [run_load, hm off v hv]

end
end Go.Vm

/- What an operation does to the memory, and the shapes in which it does it. -/
namespace Go.Vm

structure Eff (im : Im) (loc : Loc) (sto : Sto) (w : World) (r : Res) (im' : Im) (loc' : Loc) (w' : World) : Prop where
  imle : ImLe im im'
  locle : LocLe loc loc'
  im_ok : ∀ b o, im' b = some o → w'.heap[b]? = some o
  imnew : ∀ b o, im' b = some o → im b = some o ∨ w.heap.size ≤ b ∨ ∃ t li k, has r.fr t = true ∧ loc t = some li ∧ sto[t]? = some k ∧ k.solid = true ∧ li.blk = b
  os : w'.os = w.os
  tape : w'.tape = w.tape
  output : w'.output = w.output
  size : w.heap.size ≤ w'.heap.size
  frame : ∀ b, b < w.heap.size → (∀ t k li k0, (t, k) ∈ r.wr → loc t = some li → sto[t]? = some k0 → k0.solid = true → li.blk ≠ b) → w'.heap[b]? = w.heap[b]?
  wrs : ∀ t k, (t, k) ∈ r.wr → k.solid = true → ∃ k0, sto[t]? = some k0 ∧ k0.solid = true
  wr : ∀ t k li, (t, k) ∈ r.wr → loc t = some li → BR im' loc' w' li k
  locnew : ∀ t li, loc' t = some li → loc t = some li ∨ (sto.length ≤ t ∧ t < sto.length + r.news.length)
  news : ∀ (j : Nat) (k : Blk) (li : LI), r.news[j]? = some k → loc' (sto.length + j) = some li → BR im' loc' w' li k ∧
    (k.solid = true → im' li.blk = none ∧ (w.heap.size ≤ li.blk ∨ ∃ t lt k0, (t, Blk.dead) ∈ r.wr ∧ loc t = some lt ∧ sto[t]? = some k0 ∧ k0.solid = true ∧ lt.blk = li.blk))
  distinct : ∀ (i j : Nat) (ki kj : Blk) (li lj : LI), r.news[i]? = some ki → r.news[j]? = some kj → ki.solid = true → kj.solid = true →
    loc' (sto.length + i) = some li → loc' (sto.length + j) = some lj → li.blk = lj.blk → i = j

theorem newsOf {α : Type} {n : Nat} {l : List α} {loc : Loc} {A : LI → α → Prop} (h : ∀ (j : Nat) (k : α), l[j]? = some k → ∃ li, loc (n + j) = some li ∧ A li k) :
    ∀ (j : Nat) (k : α) (li : LI), l[j]? = some k → loc (n + j) = some li → A li k := fun j k li hj hl => by
  obtain ⟨li', h1, h2⟩ := h j k hj
  rw [hl] at h1; injection h1 with h1; subst h1
  exact h2

/-- What is known of the memory where an operation runs. -/
structure Known (im : Im) (loc : Loc) (sto : Sto) (w : World) (r : Res) : Prop where
  im_ok : ∀ b o, im b = some o → w.heap[b]? = some o
  tok : ∀ t, t ∈ r.rd ∨ (∃ k, (t, k) ∈ r.wr) → ∀ li, loc t = some li → ∃ k, sto[t]? = some k ∧ BR im loc w li k
  free : ∀ t k, (t, k) ∈ r.wr → ∀ li k', loc t = some li → sto[t]? = some k' → k'.solid = true → im li.blk = none
  fresh : ∀ j, j < r.news.length → loc (sto.length + j) = none
  excl : ∀ t u li lj k k', (t ∈ r.rd ∨ ∃ b, (t, b) ∈ r.wr) → (u ∈ r.rd ∨ ∃ b, (u, b) ∈ r.wr) → loc t = some li → loc u = some lj → sto[t]? = some k → sto[u]? = some k' → k.solid = true → k'.solid = true → li.blk = lj.blk → t = u

section
variable {im : Im} {loc : Loc} {sto : Sto} {w : World} {r : Res}

theorem Eff.none (hk : Known im loc sto w r) (hn : r.news = []) (hw : r.wr = []) : Eff im loc sto w r im loc w where
  imle := .refl _
  locle := .refl _
  im_ok := hk.im_ok
  imnew := fun _ _ h => .inl h
  os := rfl
  tape := rfl
  output := rfl
  size := Nat.le_refl _
  frame := fun _ _ _ => rfl
  wrs := fun t k h => by rw [hw] at h; cases h
  wr := fun t k li h => by rw [hw] at h; cases h
  locnew := fun _ _ h => .inl h
  news := fun j k li h => by rw [hn] at h; simp at h
  distinct := fun i j ki kj li lj h => by rw [hn] at h; simp at h

def Loc.set (loc : Loc) (t : Nat) (li : LI) : Loc := fun u => if u = t then some li else loc u

theorem Loc.set_same (loc : Loc) (t : Nat) (li : LI) : loc.set t li t = some li := by simp [Loc.set]
theorem Loc.le_set {loc : Loc} {t : Nat} (li : LI) (h : loc t = Option.none) : LocLe loc (loc.set t li) := by
  intro u l hu
  unfold Loc.set
  split
  · rename_i e; subst e; rw [h] at hu; cases hu
  · exact hu

/-- One new block. -/
theorem Eff.new (hk : Known im loc sto w r) {k : Blk} {o : Obj} {w' : World} (li : LI) (hn : r.news = [k]) (hw : r.wr = [])
    (hh : w'.heap = w.heap.push o) (ho : w'.os = w.os) (ht : w'.tape = w.tape) (hp : w'.output = w.output) (hl : li.blk = w.heap.size)
    (hb : BR im (loc.set sto.length li) w' li k) : Eff im loc sto w r im (loc.set sto.length li) w' where
  imle := .refl _
  locle := Loc.le_set li (by have := hk.fresh 0 (by simp [hn]); simpa using this)
  im_ok := fun b o h => by
    have h1 := hk.im_ok b o h
    have hlt : b < w.heap.size := by
      rcases Nat.lt_or_ge b w.heap.size with h | h
      · exact h
      · simp [Array.getElem?_eq_none h] at h1
    rw [hh, Array.getElem?_push, if_neg (by omega)]; exact h1
  imnew := fun _ _ h => .inl h
  os := ho
  tape := ht
  output := hp
  size := by rw [hh]; simp
  frame := fun b hb' _ => by rw [hh, Array.getElem?_push, if_neg (by omega)]
  wrs := fun t k h => by rw [hw] at h; cases h
  wr := fun t k li h => by rw [hw] at h; cases h
  locnew := fun t l h => by
    unfold Loc.set at h
    split at h
    · rename_i e; subst e; exact .inr ⟨Nat.le_refl _, by simp [hn]⟩
    · exact .inl h
  news := newsOf fun j k' h => by
    rw [hn] at h
    cases j with
    | zero =>
      simp at h; subst h
      refine ⟨li, Loc.set_same _ _ _, hb, fun _ => ⟨?_, .inl (by omega)⟩⟩
      cases hi : im li.blk with
      | none => rfl
      | some o => have := hk.im_ok _ _ hi; rw [hl] at this; simp at this
    | succ j => simp at h
  distinct := fun i j ki kj li lj h1 h2 _ _ _ _ _ => by
    rw [hn] at h1 h2
    cases i <;> cases j <;> simp at h1 h2 <;> rfl

/-- One new block without rows: nothing lies behind it. -/
theorem Eff.newEmpty (hk : Known im loc sto w r) {esz : Nat} (hn : r.news = [.arr esz []]) (hw : r.wr = []) : Eff im loc sto w r im (loc.set sto.length ⟨0, 0, esz, 0, 0⟩) w where
  imle := .refl _
  locle := Loc.le_set _ (by have := hk.fresh 0 (by simp [hn]); simpa using this)
  im_ok := hk.im_ok
  imnew := fun _ _ h => .inl h
  os := rfl
  tape := rfl
  output := rfl
  size := Nat.le_refl _
  frame := fun _ _ _ => rfl
  wrs := fun t k h => by rw [hw] at h; cases h
  wr := fun t k li h => by rw [hw] at h; cases h
  locnew := fun t l h => by
    unfold Loc.set at h
    split at h
    · rename_i e; subst e; exact .inr ⟨Nat.le_refl _, by simp [hn]⟩
    · exact .inl h
  news := newsOf fun j k' h => by
    rw [hn] at h
    cases j with
    | zero =>
      simp at h; subst h
      exact ⟨_, Loc.set_same _ _ _, ⟨rfl, rfl, fun hne => absurd rfl hne⟩, fun hs => by cases hs⟩
    | succ j => simp at h
  distinct := fun i j ki kj li lj h1 h2 _ _ _ _ _ => by
    rw [hn] at h1 h2
    cases i <;> cases j <;> simp at h1 h2 <;> rfl

/-- One block of the call's own is written. -/
theorem Eff.write (hk : Known im loc sto w r) {t : Nat} {k k0 : Blk} {o : Obj} {w' : World} {li : LI} (hn : r.news = []) (hw : r.wr = [(t, k)])
    (hl : loc t = some li) (h0 : sto[t]? = some k0) (hs : k0.solid = true)
    (hh : w'.heap = w.heap.setIfInBounds li.blk o) (ho : w'.os = w.os) (ht : w'.tape = w.tape) (hp : w'.output = w.output)
    (hb : BR im loc w' li k) : Eff im loc sto w r im loc w' where
  imle := .refl _
  locle := .refl _
  im_ok := fun b o' h => by
    have h1 := hk.im_ok b o' h
    have hfr := hk.free t k (by simp [hw]) li k0 hl h0 hs
    have hne : li.blk ≠ b := fun e => by rw [e, h] at hfr; cases hfr
    rw [hh, Array.getElem?_setIfInBounds, if_neg hne]; exact h1
  imnew := fun _ _ h => .inl h
  os := ho
  tape := ht
  output := hp
  size := by rw [hh]; simp
  frame := fun b _ h => by
    have hne := h t k li k0 (by simp [hw]) hl h0 hs
    rw [hh, Array.getElem?_setIfInBounds, if_neg hne]
  wrs := fun t' k' hm _ => by
    rw [hw] at hm
    simp at hm
    exact ⟨k0, by rw [hm.1]; exact h0, hs⟩
  wr := fun t' k' li' h h' => by
    rw [hw] at h
    simp at h
    obtain ⟨rfl, rfl⟩ := h
    rw [hl] at h'; injection h' with h'; subst h'
    exact hb
  locnew := fun _ _ h => .inl h
  news := fun j k li h => by rw [hn] at h; simp at h
  distinct := fun i j ki kj li lj h => by rw [hn] at h; simp at h

end
end Go.Vm

/- Operation by operation, second part: addresses, reads, new blocks. -/
namespace Go.Vm

section
variable {P : Program} {im : Im} {loc : Loc} {sto : Sto} {w : World}

theorem add_at (b o n : Nat) : (⟨b, o, none⟩ : Addr).add n = ⟨b, o + n, none⟩ := by
  unfold Addr.add; split
  · rename_i h; subst h; rfl
  · rfl

theorem VR.ptr_inv {t e r o : Nat} {v : Value} (h : VR im loc (.ptr t e r o) v) :
    ∃ li, loc t = some li ∧ li.esz = e ∧ r < li.n ∧ v = .pointer (some ⟨li.blk, li.sh + r * e + o, none⟩) := by
  cases h with | ptr _ _ _ _ li h1 h2 h3 => exact ⟨li, h1, h2, h3, rfl⟩

theorem VR.rptr_inv {cs : List PV} {off : Nat} {v : Value} (h : VR im loc (.rptr cs off) v) :
    ∃ b o vs, VRL im loc cs vs ∧ (∀ (j : Nat) (v : Value), vs[j]? = some v → imCell im b (o + j) = some v) ∧ v = .pointer (some ⟨b, o + off, none⟩) := by
  cases h with | rptr _ _ b o vs h1 h2 => exact ⟨b, o, vs, h1, h2, rfl⟩

theorem cell_of_block {b o : Nat} {cs : Array Value} {el : TypeId} {fr : Nat × Nat} {v : Value} (h : w.heap[b]? = some (.cells cs el fr)) (hc : cs[o]? = some v) :
    w.cell? ⟨b, o, none⟩ = some v := by simp [World.cell?, h, hc]

theorem imCell_cell (hk : ∀ b o, im b = some o → w.heap[b]? = some o) {b o : Nat} {v : Value} (h : imCell im b o = some v) : w.cell? ⟨b, o, none⟩ = some v := by
  unfold imCell at h
  cases hb : im b with
  | none => rw [hb] at h; cases h
  | some x =>
    rw [hb] at h
    cases x <;> first | exact cell_of_block (hk b _ hb) h | cases h

/-- The values of a row of plain cells. -/
def rowVals (r : Row) : List Value := r.map fun c => (plainVal c).getD Go.undef

theorem rowVals_rel {get : Nat → Option Value} {sh esz : Nat} {rows : List Row} (h : RowsAt get sh esz rows) {i : Nat} {r : Row} (hr : rows[i]? = some r) :
    VRL im loc r (rowVals r) ∧ ∀ (j : Nat) (v : Value), (rowVals r)[j]? = some v → get (sh + i * esz + j) = some v := by
  obtain ⟨_, hc⟩ := h i r hr
  constructor
  · refine VRL.of _ _ (by simp [rowVals]) fun j x v hx hv => ?_
    obtain ⟨u, hu, _⟩ := hc j x hx
    simp [rowVals, hx, hu] at hv
    subst hv
    exact VR.of_plain hu
  · intro j v hv
    cases hx : r[j]? with
    | none => simp [rowVals, hx] at hv
    | some x =>
      obtain ⟨u, hu, hg⟩ := hc j x hx
      simp [rowVals, hx, hu] at hv
      subst hv
      exact hg

theorem sim_load {agg : Option Nat} {t : TypeId} {p : PV} {u : Value} {r : Res} (hp : VR im loc p u) (ha : aggIs P t agg = true) (h : loadE sto agg p = some r)
    (hk : Known im loc sto w r) : ∃ v, (Instr.loadAt t u).run P w = .ok v w ∧ VR im loc r.v v ∧ r.news = [] ∧ r.wr = [] := by
  unfold loadE at h
  split at h
  · rename_i tk e row off
    obtain ⟨li, hl, he, hn, rfl⟩ := hp.ptr_inv
    split at h
    · rename_i e' rows hs
      split at h
      · rename_i cs hcs
        rw [Option.map_eq_some_iff] at h
        obtain ⟨x, hx, rfl⟩ := h
        obtain ⟨k, hk1, hb⟩ := hk.tok tk (.inl (by simp)) li hl
        rw [hs] at hk1; injection hk1 with hk1; subst hk1
        have hne : rows ≠ [] := by intro e; subst e; simp at hcs
        obtain ⟨h1, h2, h3⟩ := hb
        obtain ⟨arr, el, ha1, _, _, hrows⟩ := h3 hne
        obtain ⟨hv, hg⟩ := rowVals_rel (im := im) (loc := loc) hrows hcs
        have hee : e' = e := by rw [← h1, he]
        subst hee
        obtain ⟨v, hrun, hvr⟩ := loadVar_part (P := P) (w := w) (b := li.blk) (o := li.sh + row * e') ha hv
          (fun j v hj => cell_of_block ha1 (hg j v hj)) hx
        exact ⟨v, by simp only [Instr.loadAt, Instr.sureAddr, Sem.run_bind, Sem.run_pure, Result.andThen_ok, hrun], hvr, rfl, rfl⟩
      · cases h
    · rename_i cs hs
      split at h
      · rename_i hrow
        have hrow : row = 0 := by simpa using hrow
        subst hrow
        rw [Option.map_eq_some_iff] at h
        obtain ⟨x, hx, rfl⟩ := h
        obtain ⟨k, hk1, hb⟩ := hk.tok tk (.inl (by simp)) li hl
        rw [hs] at hk1; injection hk1 with hk1; subst hk1
        obtain ⟨h1, h2, h3, vs, el, h4, h5, h6⟩ := hb
        obtain ⟨v, hrun, hvr⟩ := loadVar_part (P := P) (w := w) (b := li.blk) (o := li.sh + 0 * e) ha h6
          (fun j v hj => cell_of_block h4 (by simpa [h3] using hj)) hx
        exact ⟨v, by simp only [Instr.loadAt, Instr.sureAddr, Sem.run_bind, Sem.run_pure, Result.andThen_ok, hrun], hvr, rfl, rfl⟩
      · cases h
    · cases h
  · rename_i cs off
    obtain ⟨b, o, vs, h1, h2, rfl⟩ := hp.rptr_inv
    rw [Option.map_eq_some_iff] at h
    obtain ⟨x, hx, rfl⟩ := h
    obtain ⟨v, hrun, hvr⟩ := loadVar_part (P := P) (w := w) (b := b) (o := o) ha h1 (fun j v hj => imCell_cell hk.im_ok (h2 j v hj)) hx
    exact ⟨v, by simp only [Instr.loadAt, Instr.sureAddr, Sem.run_bind, Sem.run_pure, Result.andThen_ok, hrun], hvr, rfl, rfl⟩
  · cases h

/-- A new block of cells, a pointer to it. -/
theorem sim_newbox {cs : List PV} {vs : List Value} {el : TypeId} {r : Res} (h : VRL im loc cs vs) (hr : r = { v := .ptr sto.length cs.length 0 0, news := [.box cs] }) (hk : Known im loc sto w r) :
    ∃ loc', VR im loc' r.v (.pointer (some ⟨w.heap.size, 0, none⟩)) ∧ Eff im loc sto w r im loc' { w with heap := w.heap.push (.cells ⟨vs⟩ el) } := by
  subst hr
  let li : LI := ⟨w.heap.size, 0, cs.length, 1, vs.length⟩
  refine ⟨loc.set sto.length li, ?_, ?_⟩
  · have := VR.ptr (im := im) (loc := loc.set sto.length li) sto.length cs.length 0 0 li (Loc.set_same _ _ _) rfl (Nat.zero_lt_one)
    simpa [li] using this
  · refine Eff.new hk li rfl rfl rfl rfl rfl rfl rfl ⟨rfl, rfl, rfl, vs, el, ?_, rfl, h.mono (.refl _) (Loc.le_set li (by have := hk.fresh 0 (by simp); simpa using this))⟩
    simp [li]

theorem sim_fadr {off : Nat} {t : TypeId} {f : Nat} {fs : Array Field} {g : Field} {i : TypeInfo} {p z : PV} {u : Value} (hp : VR im loc p u)
    (hu : P.underlying t = some (.struct fs)) (hf : fs[f]? = some g) (ho : g.offset = off) (hi : P.info? g.type = some i) (hz : i.size ≠ 0)
    (h : (match (generalizing := false) p with | .ptr t s r o => some (PV.ptr t s r (o + off)) | .rptr c o => some (PV.rptr c (o + off)) | _ => none) = some z) :
    ∃ v, (Instr.fieldAt t u f).run P w = .ok v w ∧ VR im loc z v := by
  have hsz : (sizeOf g.type).run P w = .ok i.size w := by simp [sizeOf, typeInfo, hi]
  cases p with
  | ptr tk s r o =>
    injection h with h; subst h
    obtain ⟨li, hl, he, hn, rfl⟩ := hp.ptr_inv
    refine ⟨_, ?_, .ptr tk s r (o + off) li hl he hn⟩
    simp [Instr.fieldAt, run_underlying hu, hf, Instr.sureAddr, fieldPlace, hsz, hz, add_at, ho, Nat.add_assoc]
  | rptr cs o =>
    injection h with h; subst h
    obtain ⟨b, o', vs, h1, h2, rfl⟩ := hp.rptr_inv
    refine ⟨_, ?_, .rptr cs (o + off) b o' vs h1 h2⟩
    simp [Instr.fieldAt, run_underlying hu, hf, Instr.sureAddr, fieldPlace, hsz, hz, add_at, ho, Nat.add_assoc]
  | _ => cases h

theorem asNat_inv {x : PV} {n : Nat} {u : Value} (hx : VR im loc x u) (h : asNat x = some n) : ∃ k, u = .int k (n : Int) := by
  unfold asNat at h
  split at h
  · rename_i k m
    obtain rfl := hx.int_inv
    split at h
    · rename_i m'; injection h with h; subst h; exact ⟨k, rfl⟩
    · cases h
  · cases h

theorem sim_iadra {n esz j : Nat} {t e : TypeId} {p z : PV} {u : Value} {k : IntKind} (hp : VR im loc p u)
    (hu : P.underlying t = some (.array n e)) (hs : szIs P e esz = true) (hj : j < n)
    (h : (match (generalizing := false) p with | .ptr t s r o => some (PV.ptr t s r (o + j * esz)) | .rptr c o => some (PV.rptr c (o + j * esz)) | _ => none) = some z) :
    ∃ v, (Instr.indexAt t u (.int k j)).run P w = .ok v w ∧ VR im loc z v := by
  have hsz := szIs_run (P := P) (w := w) hs
  cases p with
  | ptr tk s r o =>
    injection h with h; subst h
    obtain ⟨li, hl, he, hn, rfl⟩ := hp.ptr_inv
    refine ⟨_, ?_, .ptr tk s r (o + j * esz) li hl he hn⟩
    simp [Instr.indexAt, asIntOf, run_underlying hu, Instr.sureAddr, hsz, add_at, Nat.add_assoc]
    intro h; omega
  | rptr cs o =>
    injection h with h; subst h
    obtain ⟨b, o', vs, h1, h2, rfl⟩ := hp.rptr_inv
    refine ⟨_, ?_, .rptr cs (o + j * esz) b o' vs h1 h2⟩
    simp [Instr.indexAt, asIntOf, run_underlying hu, Instr.sureAddr, hsz, add_at, Nat.add_assoc]
    intro h; omega
  | _ => cases h

theorem VR.sl_inv {esz : Nat} {clip : Bool} {rows : List Row} {v : Value} (h : VR im loc (.sl esz clip rows) v) :
    ∃ a cap, v = .slice a rows.length cap ∧ rows.length ≤ cap ∧ (clip = true → cap = rows.length) ∧ (rows ≠ [] → ∃ b o, a = some ⟨b, o, none⟩ ∧ RowsAt (imCell im b) o esz rows) := by
  cases h with | sl _ _ _ a cap hc hk h => exact ⟨a, cap, rfl, hc, hk, h⟩

theorem VR.own_inv {t esz off len cap : Nat} {ex : Bool} {v : Value} (h : VR im loc (.own t esz off len cap ex) v) :
    ∃ li a cap', v = .slice a len cap' ∧ loc t = some li ∧ li.esz = esz ∧ off + cap ≤ li.n ∧ len ≤ cap ∧ cap ≤ cap' ∧ (ex = true → cap' = cap) ∧
      (cap' = 0 ∨ (li.n ≠ 0 ∧ a = some ⟨li.blk, li.sh + off * esz, none⟩ ∧ li.sh + (off + cap') * esz ≤ li.sz)) := by
  cases h with | own _ _ _ _ _ _ li a cap' h1 h2 h3 h4 h5 h6 h7 => exact ⟨li, a, cap', rfl, h1, h2, h3, h4, h5, h6, h7⟩

theorem run_indexAt_slice {t e : TypeId} {esz j len cap b o : Nat} {k : IntKind} (hu : P.underlying t = some (.slice e)) (hs : szIs P e esz = true) (hj : j < len) :
    (Instr.indexAt t (.slice (some ⟨b, o, none⟩) len cap) (.int k j)).run P w = .ok (.pointer (some ⟨b, o + j * esz, none⟩)) w := by
  have hsz := szIs_run (P := P) (w := w) hs
  have hlt : ¬ (len ≤ j) := by omega
  simp [Instr.indexAt, asIntOf, run_underlying hu, hsz, add_at]
  intro h; exact absurd h hlt

theorem sim_iadr {esz n : Nat} {t e : TypeId} {x z : PV} {u : Value} {k : IntKind} (hx : VR im loc x u)
    (hu : P.underlying t = some (.slice e)) (hs : szIs P e esz = true)
    (h : (match (generalizing := false) x with
      | .sl s _ rows => match rows[n]? with
        | some cs => if Nat.beq s esz then some (PV.rptr cs 0) else none
        | none => none
      | .own t s off len _ _ => if Nat.blt n len && Nat.beq s esz then some (PV.ptr t s (off + n) 0) else none
      | _ => none) = some z) :
    ∃ v, (Instr.indexAt t u (.int k n)).run P w = .ok v w ∧ VR im loc z v := by
  cases x with
  | sl s clip rows =>
    dsimp only at h
    cases hcs : rows[n]? with
    | none => rw [hcs] at h; cases h
    | some cs =>
      rw [hcs] at h
      dsimp only at h
      split at h
      · rename_i hse
        have hse : s = esz := by simpa using hse
        subst hse
        injection h with h; subst h
        obtain ⟨a, cap, rfl, _, _, hr⟩ := hx.sl_inv
        have hne : rows ≠ [] := by intro e; subst e; simp at hcs
        obtain ⟨b, o, rfl, hrows⟩ := hr hne
        have hn : n < rows.length := by
          rcases Nat.lt_or_ge n rows.length with h | h
          · exact h
          · rw [List.getElem?_eq_none h] at hcs; cases hcs
        refine ⟨_, run_indexAt_slice hu hs hn, ?_⟩
        obtain ⟨hv, hg⟩ := rowVals_rel (im := im) (loc := loc) hrows hcs
        have := VR.rptr (im := im) (loc := loc) cs 0 b (o + n * s) (rowVals cs) hv hg
        simpa using this
      · cases h
  | own tk s off len cap ex =>
    dsimp only at h
    split at h
    · rename_i hc
      simp only [Bool.and_eq_true] at hc
      have hn : n < len := by simpa using hc.1
      have hse : s = esz := by simpa using hc.2
      subst hse
      injection h with h; subst h
      obtain ⟨li, a, cap', rfl, hl, he, hoff, hlen, hcap, _, hd⟩ := hx.own_inv
      rcases hd with hd | ⟨hne, rfl, _⟩
      · omega
      · refine ⟨_, run_indexAt_slice hu hs hn, ?_⟩
        have := VR.ptr (im := im) (loc := loc) tk s (off + n) 0 li hl he (by omega)
        rw [show li.sh + (off + n) * s + 0 = li.sh + off * s + n * s by rw [Nat.add_mul]; omega] at this
        exact this
    · cases h
  | _ => cases h

/-! ### slicing -/

theorem run_sliceBound {x k : Nat} {kd : IntKind} {code : BoundsCode} (h : x ≤ k) : (Instr.sliceBound (.int kd x) k code).run P w = .ok x w := by
  have : (0 : Int) ≤ (x : Int) ∧ (x : Int) ≤ (k : Int) := by omega
  simp [Instr.sliceBound, asIntOf, this]

/-- The bounds, as values. -/
def BoundV (v : Option Value) (n : Option Nat) : Prop :=
  match v, n with
  | none, none => True
  | some v, some n => ∃ k, v = .int k (n : Int)
  | _, _ => False

theorem run_sliceBounds {len cap : Nat} {lo hi mx : Option Nat} {vl vh vm : Option Value} (h1 : BoundV vl lo) (h2 : BoundV vh hi) (h3 : BoundV vm mx)
    (hm : mx.isSome = true → hi.isSome = true) (hle : lo.getD 0 ≤ hi.getD len) (hhm : hi.isSome = true → hi.getD len ≤ mx.getD cap) (hmc : mx.getD cap ≤ cap) :
    (Instr.sliceBounds true len cap vl vh vm).run P w = .ok (lo.getD 0, hi.getD len, mx.getD cap) w := by
  cases mx with
  | none =>
    cases vm with
    | some v => exact h3.elim
    | none =>
      cases hi with
      | none =>
        cases vh with
        | some v => exact h2.elim
        | none =>
          cases lo with
          | none =>
            cases vl with
            | some v => exact h1.elim
            | none => simp [Instr.sliceBounds]
          | some l =>
            cases vl with
            | none => exact h1.elim
            | some v =>
              obtain ⟨k, rfl⟩ := h1
              simp only [Option.getD_some, Option.getD_none] at hle
              simp [Instr.sliceBounds, run_sliceBound hle]
      | some hh =>
        cases vh with
        | none => exact h2.elim
        | some v =>
          obtain ⟨k, rfl⟩ := h2
          simp only [Option.getD_some, Option.getD_none, Option.isSome_some, true_implies] at hle hhm
          cases lo with
          | none =>
            cases vl with
            | some v => exact h1.elim
            | none => simp [Instr.sliceBounds, run_sliceBound hhm]
          | some l =>
            cases vl with
            | none => exact h1.elim
            | some v =>
              obtain ⟨k, rfl⟩ := h1
              simp only [Option.getD_some] at hle
              simp [Instr.sliceBounds, run_sliceBound hhm, run_sliceBound hle]
  | some m =>
    cases vm with
    | none => exact h3.elim
    | some v =>
      obtain ⟨k, rfl⟩ := h3
      cases hi with
      | none => simp at hm
      | some hh =>
        cases vh with
        | none => exact h2.elim
        | some v =>
          obtain ⟨k, rfl⟩ := h2
          simp only [Option.getD_some, Option.isSome_some, true_implies] at hle hhm hmc
          cases lo with
          | none =>
            cases vl with
            | some v => exact h1.elim
            | none => simp [Instr.sliceBounds, run_sliceBound hhm, run_sliceBound hmc]
          | some l =>
            cases vl with
            | none => exact h1.elim
            | some v =>
              obtain ⟨k, rfl⟩ := h1
              simp only [Option.getD_some] at hle
              simp [Instr.sliceBounds, run_sliceBound hhm, run_sliceBound hle, run_sliceBound hmc]

end
end Go.Vm

/- Operation by operation, third part: stores, aggregates. -/
namespace Go.Vm

def spl {α : Type} (off : Nat) (new old : List α) : List α := old.take off ++ new ++ old.drop (off + new.length)

theorem spl_get {α : Type} (off : Nat) (new old : List α) (h : off + new.length ≤ old.length) (j : Nat) :
    (spl off new old)[j]? = if off ≤ j ∧ j < off + new.length then new[j - off]? else old[j]? := by
  unfold spl
  have hl : (old.take off).length = off := by simp; omega
  by_cases h1 : j < off
  · rw [if_neg (by omega), List.append_assoc, List.getElem?_append_left (by omega), List.getElem?_take_of_lt h1]
  · by_cases h2 : j < off + new.length
    · rw [if_pos ⟨by omega, h2⟩, List.append_assoc, List.getElem?_append_right (by omega), hl, List.getElem?_append_left (by omega)]
    · rw [if_neg (by omega), List.getElem?_append_right (by simp; omega), List.getElem?_drop]
      congr 1
      simp; omega

theorem spl_length {α : Type} (off : Nat) (new old : List α) (h : off + new.length ≤ old.length) : (spl off new old).length = old.length := by
  unfold spl; simp; omega

theorem VRL.spl {im : Im} {loc : Loc} {off : Nat} {xs ys : List PV} {vs us : List Value} (h : VRL im loc xs vs) (k : VRL im loc ys us) :
    VRL im loc (Vm.spl off xs ys) (Vm.spl off vs us) := by
  unfold Vm.spl
  rw [← h.length]
  exact ((k.take off).append h).append (k.drop _)

theorem VRL.plainVals {im : Im} {loc : Loc} : ∀ {xs : List PV} {vs : List Value}, VRL im loc xs vs → (∀ c ∈ xs, c.plain = true) →
    ∀ (j : Nat) (c : PV), xs[j]? = some c → ∃ v, plainVal c = some v ∧ vs[j]? = some v := by
  intro xs vs h hp j c hc
  obtain ⟨v, hv, hr⟩ := h.get j c hc
  exact ⟨v, hr.plain (hp c (List.mem_of_getElem? hc)), hv⟩

theorem row_apart {i row esz j off n sh : Nat} (hne : i ≠ row) (hj : j < esz) (hn : off + n ≤ esz) :
    ¬ (sh + row * esz + off ≤ sh + i * esz + j ∧ sh + i * esz + j < sh + row * esz + off + n) := by
  rcases Nat.lt_or_gt_of_ne hne with h | h
  · have := Nat.mul_le_mul_right esz (show i + 1 ≤ row from h)
    rw [Nat.add_mul] at this
    omega
  · have := Nat.mul_le_mul_right esz (show row + 1 ≤ i from h)
    rw [Nat.add_mul] at this
    omega

theorem RowsAt.store {get get' : Nat → Option Value} {sh esz row off : Nat} {rows : List Row} {cs ws : List PV} {vs : List Value}
    (h : RowsAt get sh esz rows) (hr : rows[row]? = some cs) (hle : off + ws.length ≤ cs.length)
    (hw : ∀ (j : Nat) (c : PV), ws[j]? = some c → ∃ v, plainVal c = some v ∧ vs[j]? = some v) (hl : vs.length = ws.length)
    (hg : ∀ k, get' k = if sh + row * esz + off ≤ k ∧ k < sh + row * esz + off + vs.length then vs[k - (sh + row * esz + off)]? else get k) :
    RowsAt get' sh esz (rows.set row (spl off ws cs)) := by
  intro i r hi
  rw [List.getElem?_set] at hi
  have hrow : row < rows.length := by
    rcases Nat.lt_or_ge row rows.length with h | h
    · exact h
    · rw [List.getElem?_eq_none h] at hr; cases hr
  obtain ⟨hcl, hcc⟩ := h row cs hr
  split at hi
  · rename_i e
    subst e
    injection hi with hi; subst hi
    refine ⟨by rw [spl_length _ _ _ hle]; exact hcl, fun j c hc => ?_⟩
    rw [spl_get _ _ _ hle] at hc
    rw [hg]
    split at hc
    · rename_i hj
      obtain ⟨v, hv, hvv⟩ := hw _ _ hc
      refine ⟨v, hv, ?_⟩
      rw [if_pos ⟨by omega, by omega⟩, ← hvv]
      congr 1
      omega
    · rename_i hj
      obtain ⟨v, hv, hvv⟩ := hcc j c hc
      refine ⟨v, hv, ?_⟩
      rw [if_neg (by omega)]
      exact hvv
  · rename_i hne
    obtain ⟨hrl, hrc⟩ := h i r hi
    refine ⟨hrl, fun j c hc => ?_⟩
    obtain ⟨v, hv, hvv⟩ := hrc j c hc
    refine ⟨v, hv, ?_⟩
    have hj : j < esz := by
      rcases Nat.lt_or_ge j r.length with h | h
      · omega
      · rw [List.getElem?_eq_none h] at hc; cases hc
    rw [hg, if_neg (row_apart (fun e => hne e.symm) hj (by omega))]
    exact hvv

section
variable {P : Program} {im : Im} {loc : Loc} {sto : Sto} {fz : List Nat} {w : World}

theorem setRow_heap_eq {g : Nat} {cur cs : Array Value} {t : TypeId} (hg : w.heap[g]? = some (.cells cur t (0, 0))) :
    (w.setRow g cs).heap = w.heap.setIfInBounds g (.cells cs t (0, 0)) := by
  have hlt : g < w.heap.size := (Array.getElem?_eq_some_iff.1 hg).1
  have hv : w.heap[g] = .cells cur t (0, 0) := (Array.getElem?_eq_some_iff.1 hg).2
  unfold World.setRow
  apply Array.ext
  · simp
  · intro k h1 h2
    rw [Array.getElem_setIfInBounds]
    simp only [Array.getElem_modify]
    split
    · rename_i hk; subst hk; simp [hv]
    · rfl

theorem oneCell'_of {v : Value} (h : (∀ us, v ≠ .agg us) ∧ ∀ us, v ≠ .tuple us) : v.oneCell' = true := by
  cases v <;> first | rfl | exact absurd rfl (h.1 _) | exact absurd rfl (h.2 _)

theorem VRL.one : ∀ {xs : List PV} {vs : List Value}, VRL im loc xs vs → (∀ c ∈ xs, c.isOne = true) → ∀ v ∈ vs, v.oneCell' = true
  | _, _, .nil, _, _, hv => by cases hv
  | _, _, .cons x u xs vs h hs, ho, v, hv => by
    cases hv with
    | head => exact oneCell'_of (h.oneCell (ho x (by simp)))
    | tail _ hm => exact VRL.one hs (fun c hc => ho c (by simp [hc])) v hm

theorem plain_isOne {c : PV} (h : c.plain = true) : c.isOne = true := by cases c <;> first | rfl | cases h

theorem stored_inv {v : PV} {ws : List PV} (h : v.stored = some ws) : ws = v.cells ∧ ∀ c ∈ v.cells, c.isOne = true := by
  unfold PV.stored at h
  split at h
  · rename_i ha; injection h with h; exact ⟨h.symm, by simpa using ha⟩
  · cases h
theorem storedPlain_inv {v : PV} {ws : List PV} (h : v.storedPlain = some ws) : ws = v.cells ∧ ∀ c ∈ v.cells, c.plain = true := by
  unfold PV.storedPlain at h
  split at h
  · rename_i ha; injection h with h; exact ⟨h.symm, by simpa using ha⟩
  · cases h

/-- The model's own store into a block of cells. -/
theorem run_storeAt {t el : TypeId} {sz b o : Nat} {x : Value} {cur : Array Value} (hs : szIs P t sz = true) (hb : w.heap[b]? = some (.cells cur el (0, 0)))
    (hx : x.cells.size = sz) (hle : o + sz ≤ cur.size) (h1 : ∀ v ∈ x.cells.toList, v.oneCell' = true) :
    (Instr.storeAt t (.pointer (some ⟨b, o, none⟩)) x).run P w = .ok () (w.setRow b (spl o x.cells.toList cur.toList).toArray) := by
  have := run_storeCells_at P b o el x.cells.toList 0 cur w hb (by simp; omega) h1
  simp only [Instr.storeAt, Instr.sureAddr, Sem.run_bind, Sem.run_pure, Result.andThen_ok, storeVar, szIs_run hs, hx, ne_eq, not_true_eq_false, if_false]
  simpa [spl] using this

theorem sim_store {t : TypeId} {sz : Nat} {p v : PV} {u x : Value} {r : Res} (hp : VR im loc p u) (hv : VR im loc v x) (hs : szIs P t sz = true)
    (h : storeE sto fz sz v p = some r) (hk : Known im loc sto w r) :
    ∃ w', (Instr.storeAt t u x).run P w = .ok () w' ∧ Eff im loc sto w r im loc w' ∧ r.v = .undef := by
  unfold storeE at h
  cases p with
  | ptr tk e row off =>
    dsimp only at h
    obtain ⟨li, hl, he, hn, rfl⟩ := hp.ptr_inv
    cases hsto : sto[tk]? with
    | none => rw [hsto] at h; cases h
    | some blk =>
      rw [hsto] at h
      cases blk with
      | arr e' rows =>
        dsimp only at h
        cases hcs : rows[row]? with
        | none => rw [hcs] at h; cases h
        | some cs =>
          cases hw : v.storedPlain with
          | none => rw [hcs, hw] at h; cases h
          | some ws =>
            rw [hcs, hw] at h
            dsimp only at h
            split at h
            · rename_i hc
              simp only [Bool.and_eq_true, Nat.beq_eq, Nat.ble_eq] at hc
              obtain ⟨⟨hlen, hle⟩, hfz⟩ := hc
              obtain ⟨rfl, hpl⟩ := storedPlain_inv hw
              injection h with h; subst h
              obtain ⟨k, hk1, hb⟩ := hk.tok tk (.inr ⟨_, List.mem_singleton.2 rfl⟩) li hl
              rw [hsto] at hk1; injection hk1 with hk1; subst hk1
              have hne : rows ≠ [] := by intro e; subst e; simp at hcs
              obtain ⟨h1, h2, h3⟩ := hb
              obtain ⟨arr, el, ha1, ha2, ha3, hrows⟩ := h3 hne
              have hee : e' = e := by rw [← h1, he]
              subst hee
              have hcl : cs.length = e' := (hrows row cs hcs).1
              have hvc := hv.cells (fun c hc => plain_isOne (hpl c hc))
              have hxs : x.cells.size = sz := by have := hvc.length; simp only [Array.length_toList] at this; omega
              have hrl : row < rows.length := by
                rcases Nat.lt_or_ge row rows.length with h | h
                · exact h
                · rw [List.getElem?_eq_none h] at hcs; cases hcs
              have hmul := Nat.mul_le_mul_right e' (show row + 1 ≤ rows.length from hrl)
              rw [Nat.add_mul] at hmul
              have hfit : li.sh + row * e' + off + sz ≤ arr.size := by omega
              have hrun := run_storeAt (P := P) (w := w) (t := t) (b := li.blk) (o := li.sh + row * e' + off) hs ha1 hxs hfit (hvc.one (fun c hc => plain_isOne (hpl c hc)))
              refine ⟨_, hrun, ?_, rfl⟩
              refine Eff.write hk (t := tk) (k0 := .arr e' rows) (li := li) rfl rfl hl hsto (by cases rows with | nil => exact absurd rfl hne | cons _ _ => rfl) (setRow_heap_eq ha1) rfl rfl rfl ?_
              refine ⟨h1, by simpa using h2, fun _ => ⟨(spl (li.sh + row * e' + off) x.cells.toList arr.toList).toArray, el, ?_, ?_, by simpa using ha3, ?_⟩⟩
              · rw [setRow_heap_eq ha1]
                have hlt := (Array.getElem?_eq_some_iff.1 ha1).1
                simp [hlt]
              · rw [← ha2]
                simp only [List.size_toArray]
                rw [spl_length _ _ _ (by simp; omega)]; simp
              · refine hrows.store hcs (by omega) (hvc.plainVals hpl) hvc.length.symm (fun k => ?_)
                simp only [List.getElem?_toArray]
                rw [spl_get _ _ _ (by simp; omega)]
                simp
            · cases h
      | box cs =>
        dsimp only at h
        cases hw : v.stored with
        | none => rw [hw] at h; cases h
        | some ws =>
          rw [hw] at h
          dsimp only at h
          split at h
          · rename_i hc
            simp only [Bool.and_eq_true, Nat.beq_eq, Nat.ble_eq] at hc
            obtain ⟨⟨⟨hrow, hlen⟩, hle⟩, hfz⟩ := hc
            subst hrow
            obtain ⟨rfl, hone⟩ := stored_inv hw
            injection h with h; subst h
            obtain ⟨k, hk1, hb⟩ := hk.tok tk (.inr ⟨_, List.mem_singleton.2 rfl⟩) li hl
            rw [hsto] at hk1; injection hk1 with hk1; subst hk1
            obtain ⟨h1, h2, h3, vs, el, h4, h5, h6⟩ := hb
            have hvc := hv.cells hone
            have hxs : x.cells.size = sz := by have := hvc.length; simp only [Array.length_toList] at this; omega
            have hcv := h6.length
            have hrun := run_storeAt (P := P) (w := w) (t := t) (b := li.blk) (o := li.sh + 0 * e + off) hs h4 hxs (by simp [h3]; omega) (hvc.one hone)
            refine ⟨_, hrun, ?_, rfl⟩
            refine Eff.write hk (t := tk) (k0 := .box cs) (li := li) rfl rfl hl hsto rfl (setRow_heap_eq h4) rfl rfl rfl ?_
            refine ⟨by simpa [splice] using (by rw [h1]; have := spl_length off v.cells cs (by omega); unfold spl at this; simpa using this.symm), h2, h3, spl off x.cells.toList vs, el, ?_, ?_, ?_⟩
            · rw [setRow_heap_eq h4]
              have hlt := (Array.getElem?_eq_some_iff.1 h4).1
              simp [hlt, h3]
            · rw [spl_length _ _ _ (by simp; omega)]; exact h5
            · exact VRL.spl hvc h6
          · cases h
      | _ => cases h
  | _ => cases h

end
end Go.Vm

/- Operation by operation, fourth part: aggregates, rows, slices. -/
namespace Go.Vm

theorem RowsAt.tail {get : Nat → Option Value} {sh esz : Nat} {r : Row} {rs : List Row} (h : RowsAt get sh esz (r :: rs)) : RowsAt get (sh + esz) esz rs := by
  intro i x hx
  obtain ⟨h1, h2⟩ := h (i + 1) x (by simpa using hx)
  refine ⟨h1, fun j c hc => ?_⟩
  obtain ⟨v, hv, hg⟩ := h2 j c hc
  refine ⟨v, hv, ?_⟩
  rw [← hg]; congr 1; rw [Nat.add_mul]; omega

theorem RowsAt.drop {get : Nat → Option Value} {sh esz : Nat} {rows : List Row} (h : RowsAt get sh esz rows) (n : Nat) : RowsAt get (sh + n * esz) esz (rows.drop n) := by
  intro i x hx
  rw [List.getElem?_drop] at hx
  obtain ⟨h1, h2⟩ := h (n + i) x hx
  refine ⟨h1, fun j c hc => ?_⟩
  obtain ⟨v, hv, hg⟩ := h2 j c hc
  refine ⟨v, hv, ?_⟩
  rw [← hg]; congr 1; rw [Nat.add_mul]; omega

theorem RowsAt.take {get : Nat → Option Value} {sh esz : Nat} {rows : List Row} (h : RowsAt get sh esz rows) (n : Nat) : RowsAt get sh esz (rows.take n) := by
  intro i x hx
  have hi : i < n := by
    rcases Nat.lt_or_ge i n with h | h
    · exact h
    · rw [List.getElem?_eq_none (by simp; omega)] at hx; cases hx
  rw [List.getElem?_take_of_lt hi] at hx
  exact h i x hx

theorem RowsAt.append {get : Nat → Option Value} {sh esz : Nat} {xs ys : List Row} (h : RowsAt get sh esz xs) (k : RowsAt get (sh + xs.length * esz) esz ys) : RowsAt get sh esz (xs ++ ys) := by
  intro i r hr
  rcases Nat.lt_or_ge i xs.length with hi | hi
  · rw [List.getElem?_append_left hi] at hr; exact h i r hr
  · rw [List.getElem?_append_right hi] at hr
    obtain ⟨h1, h2⟩ := k _ r hr
    refine ⟨h1, fun j c hc => ?_⟩
    obtain ⟨v, hv, hg⟩ := h2 j c hc
    refine ⟨v, hv, ?_⟩
    rw [← hg]; congr 1
    have : i * esz = xs.length * esz + (i - xs.length) * esz := by rw [← Nat.add_mul]; congr 1; omega
    omega

theorem RowsAt.rowLen {get : Nat → Option Value} {sh esz : Nat} {rows : List Row} (h : RowsAt get sh esz rows) : ∀ r ∈ rows, r.length = esz := by
  intro r hr
  obtain ⟨i, hi, rfl⟩ := List.mem_iff_getElem.1 hr
  exact (h i _ (List.getElem?_eq_getElem hi)).1

theorem rowVals_length (r : Row) : (rowVals r).length = r.length := by simp [rowVals]

theorem flat_length {esz : Nat} : ∀ {rows : List Row}, (∀ r ∈ rows, r.length = esz) → (rows.flatMap rowVals).length = rows.length * esz
  | [], _ => by simp
  | r :: rs, h => by
    have ih := flat_length (esz := esz) (rows := rs) (fun x hx => h x (by simp [hx]))
    simp only [List.flatMap_cons, List.length_append, ih, rowVals_length, h r (by simp), List.length_cons, Nat.add_mul]
    omega

theorem RowsAt.flat {get : Nat → Option Value} {esz : Nat} : ∀ {rows : List Row} {sh : Nat}, RowsAt get sh esz rows → ∀ (j : Nat) (v : Value), (rows.flatMap rowVals)[j]? = some v → get (sh + j) = some v
  | [], _, _, j, v, h => by simp at h
  | r :: rs, sh, hr, j, v, h => by
    rw [List.flatMap_cons] at h
    have hl : (rowVals r).length = esz := by rw [rowVals_length]; exact hr.rowLen r (by simp)
    rcases Nat.lt_or_ge j esz with hj | hj
    · rw [List.getElem?_append_left (by omega)] at h
      have := (rowVals_rel (im := fun _ => none) (loc := fun _ => none) hr (i := 0) rfl).2 j v h
      simpa using this
    · rw [List.getElem?_append_right (by omega), hl] at h
      have := RowsAt.flat hr.tail (j - esz) v h
      rw [show sh + esz + (j - esz) = sh + j by omega] at this
      exact this

theorem RowsAt.ofFlat {esz : Nat} : ∀ {rows : List Row} {get : Nat → Option Value} {sh : Nat}, (∀ r ∈ rows, r.length = esz) → (∀ r ∈ rows, ∀ c ∈ r, c.plain = true) →
    (∀ (j : Nat) (v : Value), (rows.flatMap rowVals)[j]? = some v → get (sh + j) = some v) → RowsAt get sh esz rows
  | [], _, _, _, _, _ => by intro i r h; simp at h
  | r :: rs, get, sh, hl, hp, hg => by
    have hrl : (rowVals r).length = esz := by rw [rowVals_length]; exact hl r (by simp)
    have h1 : RowsAt get sh esz [r] := by
      intro i x hx
      cases i with
      | succ i => simp at hx
      | zero =>
        simp at hx; subst hx
        refine ⟨hl r (by simp), fun j c hc => ?_⟩
        have hcp := hp r (by simp) c (List.mem_of_getElem? hc)
        obtain ⟨v, hv⟩ : ∃ v, plainVal c = some v := by cases c <;> first | exact ⟨_, rfl⟩ | cases hcp
        refine ⟨v, hv, ?_⟩
        have hj : j < esz := by
          rcases Nat.lt_or_ge j r.length with h | h
          · have := hl r (by simp); omega
          · rw [List.getElem?_eq_none h] at hc; cases hc
        have := hg j v (by
          rw [List.flatMap_cons, List.getElem?_append_left (by omega)]
          simp [rowVals, hc, hv])
        simpa using this
    have h2 : RowsAt get (sh + esz) esz rs := RowsAt.ofFlat (fun x hx => hl x (by simp [hx])) (fun x hx => hp x (by simp [hx])) (fun j v hj => by
      have := hg (esz + j) v (by
        rw [List.flatMap_cons, List.getElem?_append_right (by omega), hrl, show esz + j - esz = j by omega]; exact hj)
      rwa [← Nat.add_assoc] at this)
    have := h1.append (ys := rs) (by simpa using h2)
    simpa using this

theorem RowsAt.plain {get : Nat → Option Value} {sh esz : Nat} {rows : List Row} (h : RowsAt get sh esz rows) : ∀ r ∈ rows, ∀ c ∈ r, c.plain = true := by
  intro r hr c hc
  obtain ⟨i, hi, rfl⟩ := List.mem_iff_getElem.1 hr
  obtain ⟨j, hj, rfl⟩ := List.mem_iff_getElem.1 hc
  obtain ⟨v, hv, _⟩ := (h i _ (List.getElem?_eq_getElem hi)).2 j _ (List.getElem?_eq_getElem hj)
  cases hh : rows[i][j] <;> rw [hh] at hv <;> first | rfl | cases hv

theorem flat_one {rows : List Row} (hp : ∀ r ∈ rows, ∀ c ∈ r, c.plain = true) : ∀ u ∈ rows.flatMap rowVals, u.oneCell' = true := by
  intro u hu
  obtain ⟨r, hr, hu⟩ := List.mem_flatMap.1 hu
  obtain ⟨c, hc, rfl⟩ := List.mem_map.1 hu
  have := hp r hr c hc
  cases c <;> first | rfl | cases this

section
variable {P : Program} {im : Im} {loc : Loc} {sto : Sto} {fz : List Nat} {w : World}

/-- What a slice holds: what append and copy read of it. -/
theorem src_of {esz : Nat} {y : PV} {u : Value} {new : List Row} {tx e' : TypeId} (hy : VR im loc y u) (hr : rowsOf sto esz y = some new) (hx : P.underlying tx = some (.slice e'))
    (im_ok : ∀ b o, im b = some o → w.heap[b]? = some o) (tok : ∀ t, t ∈ tokOf y → ∀ li, loc t = some li → ∃ k, sto[t]? = some k ∧ BR im loc w li k) :
    Src P esz tx u new.length (new.flatMap rowVals) w ∧ (∀ r ∈ new, r.length = esz) ∧ (∀ r ∈ new, ∀ c ∈ r, c.plain = true) := by
  unfold rowsOf at hr
  cases y with
  | sl e clip rows =>
    obtain ⟨a, cap, rfl, _, _, hrows⟩ := hy.sl_inv
    cases rows with
    | nil =>
      simp at hr; subst hr
      refine ⟨?_, by simp, by simp⟩
      cases a with
      | none => exact Src.ofNil w hx cap
      | some a => exact Src.ofSlice w hx a 0 cap [] (by simp) (by simp) (by simp)
    | cons r rs =>
      dsimp only at hr
      split at hr
      · rename_i he
        have he : e = esz := by simpa using he
        subst he
        injection hr with hr; subst hr
        obtain ⟨b, o, rfl, hat⟩ := hrows (by simp)
        refine ⟨Src.ofSlice w hx ⟨b, o, none⟩ _ cap _ (flat_length hat.rowLen) (fun j v hj => ?_) (flat_one hat.plain), hat.rowLen, hat.plain⟩
        rw [add_at]
        exact imCell_cell im_ok (hat.flat j v hj)
      · cases hr
  | own t e off len cap ex =>
    dsimp only at hr
    split at hr
    · rename_i he
      have he : e = esz := by simpa using he
      subst he
      obtain ⟨li, a, cap', rfl, hl, h2, h3, h4, h5, h6, h7⟩ := hy.own_inv
      obtain ⟨k, hk1, hb⟩ := tok t (by simp [tokOf]) li hl
      rw [hk1] at hr
      cases k with
      | arr e' rows =>
        simp only [Option.some.injEq] at hr
        subst hr
        obtain ⟨b1, b2, b3⟩ := hb
        have hlen : ((rows.drop off).take len).length = len := by simp; omega
        have hee : e' = e := by rw [← b1, h2]
        subst hee
        cases rows with
        | nil =>
          have : len = 0 := by simp at b2; omega
          subst this
          refine ⟨?_, by simp, by simp⟩
          simp
          cases a with
          | none => exact Src.ofNil w hx cap'
          | some a => exact Src.ofSlice w hx a 0 cap' [] (by simp) (by simp) (by simp)
        | cons r rs =>
          obtain ⟨arr, el, ha1, ha2, ha3, hat⟩ := b3 (by simp)
          have hsub := (hat.drop off).take len
          rcases h7 with h7 | ⟨h7, rfl, h9⟩
          · have : len = 0 := by omega
            subst this
            refine ⟨?_, by simp, by simp⟩
            simp
            cases a with
            | none => exact Src.ofNil w hx cap'
            | some a => exact Src.ofSlice w hx a 0 cap' [] (by simp) (by simp) (by simp)
          · rw [hlen]
            refine ⟨Src.ofSlice w hx ⟨li.blk, li.sh + off * e', none⟩ len cap' _ (by rw [flat_length hsub.rowLen, hlen]) (fun j v hj => ?_) (flat_one hsub.plain), hsub.rowLen, hsub.plain⟩
            rw [add_at]
            exact cell_of_block ha1 (hsub.flat j v hj)
      | _ => cases hr
    · cases hr
  | _ => cases hr

end
end Go.Vm

/- Operation by operation, fifth part: append. -/
namespace Go.Vm

theorem setRows_spl : ∀ (new : List Row) (i : Nat) (rows : List Row), i + new.length ≤ rows.length → setRows i new rows = spl i new rows
  | [], i, rows, h => by simp [setRows, spl]
  | r :: rs, i, rows, h => by
    simp only [List.length_cons] at h
    rw [setRows, setRows_spl rs (i + 1) (rows.set i r) (by simp; omega)]
    apply List.ext_getElem?
    intro j
    rw [spl_get _ _ _ (by simp; omega), spl_get _ _ _ (by simp; omega)]
    simp only [List.length_cons]
    by_cases h1 : i + 1 ≤ j ∧ j < i + 1 + rs.length
    · rw [if_pos h1, if_pos ⟨by omega, by omega⟩]
      obtain ⟨k, hk⟩ : ∃ k, j - i = k + 1 := ⟨j - i - 1, by omega⟩
      rw [hk, show j - (i + 1) = k by omega]; simp
    · rw [if_neg h1]
      by_cases h2 : j = i
      · subst h2
        rw [if_pos ⟨Nat.le_refl _, by omega⟩, List.getElem?_set_self (by omega)]
        simp
      · rw [if_neg (by omega), List.getElem?_set_ne (by omega)]

theorem RowsAt.spl {get get' : Nat → Option Value} {sh esz i : Nat} {new rows : List Row} (h : RowsAt get sh esz rows) (hle : i + new.length ≤ rows.length)
    (hl : ∀ r ∈ new, r.length = esz) (hp : ∀ r ∈ new, ∀ c ∈ r, c.plain = true)
    (hg : ∀ k, get' k = if sh + i * esz ≤ k ∧ k < sh + i * esz + new.length * esz then (new.flatMap rowVals)[k - (sh + i * esz)]? else get k) :
    RowsAt get' sh esz (spl i new rows) := by
  have hfl := flat_length hl
  have old : ∀ k r, rows[k]? = some r → (k < i ∨ i + new.length ≤ k) → r.length = esz ∧ ∀ (j : Nat) (c : PV), r[j]? = some c → ∃ v, plainVal c = some v ∧ get' (sh + k * esz + j) = some v := by
    intro k r hk hor
    obtain ⟨h1, h2⟩ := h k r hk
    refine ⟨h1, fun j c hc => ?_⟩
    obtain ⟨v, hv, hvv⟩ := h2 j c hc
    refine ⟨v, hv, ?_⟩
    have hj : j < esz := by
      rcases Nat.lt_or_ge j r.length with h | h
      · omega
      · rw [List.getElem?_eq_none h] at hc; cases hc
    rw [hg, if_neg]
    · exact hvv
    · rcases hor with hor | hor
      · have := Nat.mul_le_mul_right esz (show k + 1 ≤ i from hor)
        rw [Nat.add_mul] at this
        omega
      · have := Nat.mul_le_mul_right esz hor
        rw [Nat.add_mul] at this
        omega
  have hnew : RowsAt get' (sh + i * esz) esz new := RowsAt.ofFlat hl hp fun j v hj => by
    have hjl : j < new.length * esz := by
      rcases Nat.lt_or_ge j (new.length * esz) with h | h
      · exact h
      · rw [List.getElem?_eq_none (by omega)] at hj; cases hj
    rw [hg, if_pos ⟨by omega, by omega⟩, ← hj]; congr 1; omega
  intro k r hk
  rw [spl_get _ _ _ hle] at hk
  split at hk
  · rename_i hc
    obtain ⟨h1, h2⟩ := hnew _ r hk
    refine ⟨h1, fun j c hc' => ?_⟩
    obtain ⟨v, hv, hvv⟩ := h2 j c hc'
    refine ⟨v, hv, ?_⟩
    rw [← hvv]; congr 1
    have : k * esz = i * esz + (k - i) * esz := by rw [← Nat.add_mul]; congr 1; omega
    omega
  · rename_i hc
    exact old k r hk (by omega)

theorem grownCap_ge (w : World) (need old : Nat) (e : TypeId) : need ≤ grownCap w need old e := by
  unfold grownCap; simp [Question.cut]

theorem cap_fits {need old bytes : Nat} (h : old < need) (hn : need ≤ 1048576) (hb : bytes ≤ 1048576) : Builtin.nextslicecap need old * bytes ≤ 281474976710656 := by
  have h1 := nextslicecap_le h
  have h2 : Builtin.nextslicecap need old ≤ 2097152 := by omega
  have := Nat.mul_le_mul h2 hb
  omega

theorem zeroCells_size (z : Array Value) (n : Nat) : (Builtin.zeroCells z n).size = n * z.size := by simp [Builtin.zeroCells]

section
variable {P : Program} {im : Im} {loc : Loc} {sto : Sto} {fz : List Nat} {w : World}

theorem run_append_room_row (t tx ty e : TypeId) (i : TypeInfo) (ht : P.underlying t = some (.slice e)) (hi : P.info? e = some i) (b off sLen sCap : Nat) (x : Value) (n : Nat) (news : List Value) (hs : Src P i.size tx x n news w)
    (hroom : sLen + n ≤ sCap) {cur : Array Value} {el : TypeId} (hb : w.heap[b]? = some (.cells cur el (0, 0))) (hle : off + sLen * i.size + news.length ≤ cur.size) :
    (Builtin.append_ #[t, tx] ty #[.slice (some ⟨b, off, none⟩) sLen sCap, x]).run P w =
      .ok (.slice (some ⟨b, off, none⟩) (sLen + n) sCap) (w.setRow b (spl (off + sLen * i.size) news cur.toList).toArray) := by
  have hst := run_storeCells_at P b (off + sLen * i.size) el news 0 cur w hb (by simpa using hle) hs.one
  simp only [Nat.add_zero] at hst
  rcases hs.kind with ⟨e', hk⟩ | hk <;> simp [Builtin.append_, run_underlying ht, run_underlying hk, sizeOf, typeInfo, hi, hs.len, hroom, hs.cells, Addr.add_lit, hst, spl]

/-- The new row that an append makes: 'olds' and 'new', and what lies behind. -/
theorem sim_grown {esz : Nat} {olds new : List Row} {rest : Array Value} {el : TypeId} {r : Res} {w' : World} {nc : Nat} (hr : r.v = .own sto.length esz 0 (olds.length + new.length) (olds.length + new.length) false)
    (hn : r.news = [.arr esz (olds ++ new)]) (hk : Known im loc sto w r) (hne : new ≠ [])
    (hh : w'.heap = w.heap.push (.cells (((olds.flatMap rowVals) ++ (new.flatMap rowVals)).toArray ++ rest) el))
    (hl1 : ∀ r ∈ olds, r.length = esz) (hp1 : ∀ r ∈ olds, ∀ c ∈ r, c.plain = true) (hl2 : ∀ r ∈ new, r.length = esz) (hp2 : ∀ r ∈ new, ∀ c ∈ r, c.plain = true)
    (hnc : olds.length + new.length ≤ nc) (hrs : rest.size = (nc - (olds.length + new.length)) * esz) :
    ∃ li : LI, li.blk = w.heap.size ∧ VR im (loc.set sto.length li) r.v (.slice (some ⟨w.heap.size, 0, none⟩) (olds.length + new.length) nc) ∧
      BR im (loc.set sto.length li) w' li (.arr esz (olds ++ new)) ∧ LocLe loc (loc.set sto.length li) := by
  have hfl1 := flat_length hl1
  have hfl2 := flat_length hl2
  have hsz : (((olds.flatMap rowVals) ++ (new.flatMap rowVals)).toArray ++ rest).size = nc * esz := by
    simp only [Array.size_append, List.size_toArray, List.length_append, hfl1, hfl2, hrs]
    rw [← Nat.add_mul, ← Nat.add_mul]; congr 1; omega
  let li : LI := ⟨w.heap.size, 0, esz, (olds ++ new).length, nc * esz⟩
  refine ⟨li, rfl, ?_, ⟨rfl, rfl, fun _ => ⟨_, el, by rw [hh]; simp [li], hsz, ?_, ?_⟩⟩, Loc.le_set li (by have := hk.fresh 0 (by simp [hn]); simpa using this)⟩
  · rw [hr]
    have := VR.own (im := im) (loc := loc.set sto.length li) sto.length esz 0 (olds.length + new.length) (olds.length + new.length) false li (some ⟨w.heap.size, 0, none⟩) nc
      (Loc.set_same _ _ _) rfl (by simp [li]) (Nat.le_refl _) hnc (by simp)
      (.inr ⟨by simp [li]; intro _; exact hne, by simp [li], by simp [li]⟩)
    exact this
  · simp only [li]
    have := Nat.mul_le_mul_right esz hnc
    simp only [List.length_append]
    omega
  · refine RowsAt.ofFlat (fun r hr => ?_) (fun r hr => ?_) (fun j v hj => ?_)
    · rcases List.mem_append.1 hr with h | h
      · exact hl1 r h
      · exact hl2 r h
    · rcases List.mem_append.1 hr with h | h
      · exact hp1 r h
      · exact hp2 r h
    · rw [List.flatMap_append] at hj
      simp only [li, Nat.zero_add]
      rw [Array.getElem?_append_left (by
        have := (List.getElem?_eq_some_iff.1 hj).1
        simpa using this)]
      simpa using hj

end
end Go.Vm

/- Operation by operation, sixth part: append, whole. -/
namespace Go.Vm
section
variable {P : Program} {im : Im} {loc : Loc} {sto : Sto} {fz : List Nat} {w : World}

theorem grow_run {t tx ty e : TypeId} {i : TypeInfo} {z : Value} {esz : Nat} (ht : P.underlying t = some (.slice e)) (hi : P.info? e = some i) (hz : i.zero = some z) (hzs : z.cells.size = esz)
    (hby : i.bytes ≤ 1048576) {base : Option Addr} {sLen sCap : Nat} {olds : List Row} {new : List Row} {x : Value}
    (hold : (Builtin.firstCells i.size sLen (.slice base sLen sCap)).run P w.drew = .ok (olds.flatMap rowVals).toArray w.drew)
    (hs : Src P i.size tx x new.length (new.flatMap rowVals) w) (hg : sCap < sLen + new.length) (hm : sLen + new.length ≤ 1048576) :
    ∃ (nc : Nat) (rest : Array Value), sLen + new.length ≤ nc ∧ rest.size = (nc - (sLen + new.length)) * esz ∧
      (Builtin.append_ #[t, tx] ty #[.slice base sLen sCap, x]).run P w = .ok (.slice (some ⟨w.heap.size, 0, none⟩) (sLen + new.length) nc)
        (w.drew.alloc (.cells (((olds.flatMap rowVals) ++ (new.flatMap rowVals)).toArray ++ rest) e)) := by
  refine ⟨_, _, grownCap_ge w (sLen + new.length) sCap e, by rw [zeroCells_size, hzs],
    run_append_grow_src w t tx ty e i z ht hi hz base sLen sCap _ hold x _ _ hs hg (by omega) (cap_fits hg hm hby)⟩

theorem sim_append {t tx ty e e' : TypeId} {i : TypeInfo} {z : Value} {esz : Nat} (ht : P.underlying t = some (.slice e)) (htx : P.underlying tx = some (.slice e')) (hi : P.info? e = some i) (hsz : i.size = esz)
    (hz : i.zero = some z) (hzs : z.cells.size = esz) (hby : i.bytes ≤ 1048576)
    {x y : PV} {u v : Value} {r : Res} (hx : VR im loc x u) (hy : VR im loc y v) (h : appendE sto fz esz x y = some r) (hk : Known im loc sto w r) :
    ∃ v' w' loc', (Builtin.append_ #[t, tx] ty #[u, v]).run P w = .ok v' w' ∧ VR im loc' r.v v' ∧ Eff im loc sto w r im loc' w' := by
  unfold appendE at h
  cases hro : rowsOf sto esz y with
  | none => rw [hro] at h; cases h
  | some new =>
    rw [hro] at h
    dsimp only at h
    cases new with
    | nil =>
      dsimp only at h
      have key : ∀ (a : Option Addr) (n cap : Nat), u = .slice a n cap → n ≤ cap → some ({ v := x, rd := tokOf y } : Res) = some r →
          ∃ v' w' loc', (Builtin.append_ #[t, tx] ty #[u, v]).run P w = .ok v' w' ∧ VR im loc' r.v v' ∧ Eff im loc sto w r im loc' w' := by
        intro a n cap hu hle hr
        injection hr with hr; subst hr
        obtain ⟨hs, _, _⟩ := src_of (P := P) (w := w) hy hro htx hk.im_ok (fun t ht => hk.tok t (.inl ht))
        simp only [List.flatMap_nil, List.length_nil] at hs
        subst hu
        rw [← hsz] at hs
        exact ⟨_, _, loc, run_append_nothing w t tx ty e i ht hi a n cap hle _ hs, hx, Eff.none hk rfl rfl⟩
      have fresh : ∀ (a : Option Addr) (rd : List Nat), u = .slice a 0 0 → (∀ t ∈ tokOf y, t ∈ rd) → some ({ v := .own sto.length esz 0 0 0 false, news := [.arr esz []], rd := rd } : Res) = some r →
          ∃ v' w' loc', (Builtin.append_ #[t, tx] ty #[u, v]).run P w = .ok v' w' ∧ VR im loc' r.v v' ∧ Eff im loc sto w r im loc' w' := by
        intro a rd hu hrd hr
        injection hr with hr; subst hr
        obtain ⟨hs, _, _⟩ := src_of (P := P) (w := w) hy hro htx hk.im_ok (fun t ht => hk.tok t (.inl (hrd t ht)))
        simp only [List.flatMap_nil, List.length_nil] at hs
        subst hu
        rw [← hsz] at hs
        exact ⟨_, _, _, run_append_nothing w t tx ty e i ht hi a 0 0 (Nat.le_refl _) _ hs, .own _ esz 0 0 0 false ⟨0, 0, esz, 0, 0⟩ a 0 (Loc.set_same _ _ _) rfl (Nat.le_refl _) (Nat.le_refl _) (Nat.le_refl _) (by simp) (.inl rfl), Eff.newEmpty hk rfl rfl⟩
      cases x with
      | sl e clip rows =>
        obtain ⟨a, cap, hu, hle, hcl, _⟩ := hx.sl_inv
        dsimp only at h
        split at h
        · rename_i hc
          simp only [Bool.and_eq_true, List.isEmpty_iff] at hc
          obtain ⟨hc, rfl⟩ := hc
          have := hcl hc
          simp at this
          subst this
          exact fresh a _ (by simpa using hu) (fun _ h => h) h
        · exact key a _ cap hu hle h
      | own tk e off len cap ex =>
        obtain ⟨li, a, cap', hu, h1, h2, h3, h4, h5, h6, _⟩ := hx.own_inv
        dsimp only at h
        split at h
        · rename_i hc
          simp only [Bool.and_eq_true, Nat.beq_eq] at hc
          obtain ⟨⟨rfl, rfl⟩, hc⟩ := hc
          have := h6 hc
          subst this
          exact fresh a _ hu (fun _ h => List.mem_cons_of_mem _ h) h
        · exact key a _ cap' hu (by omega) h
      | _ => cases h
    | cons n0 ns =>
      dsimp only at h
      generalize hnew : n0 :: ns = new at h hro
      have hne : new ≠ [] := by rw [← hnew]; simp
      have hpos : 0 < new.length := by rw [← hnew]; simp
      cases x with
      | sl e1 clip rows =>
        dsimp only at h
        split at h
        · rename_i hc
          simp only [Bool.and_eq_true, Bool.or_eq_true, Nat.beq_eq, Nat.ble_eq] at hc
          obtain ⟨⟨hclip, hesz⟩, hmost⟩ := hc
          injection h with h
          obtain ⟨a, cap, rfl, hcap, hck, hrows⟩ := hx.sl_inv
          have hcapeq := hck hclip
          have hkk : Known im loc sto w { v := .own sto.length esz 0 (rows.length + new.length) (rows.length + new.length) false, news := [.arr esz (rows ++ new)], rd := tokOf y } := by rw [h]; exact hk
          obtain ⟨hs, hnl, hnp⟩ := src_of (P := P) (w := w) hy hro htx hkk.im_ok (fun t ht => hkk.tok t (.inl ht))
          rw [← hsz] at hs
          have hold : (Builtin.firstCells i.size rows.length (.slice a rows.length cap)).run P w.drew = .ok (rows.flatMap rowVals).toArray w.drew ∧ (∀ r ∈ rows, r.length = esz) ∧ (∀ r ∈ rows, ∀ c ∈ r, c.plain = true) := by
            cases hrw : rows with
            | nil =>
              refine ⟨?_, by simp, by simp⟩
              cases a with
              | none => simpa using run_firstCells_none w.drew i.size 0 0 cap
              | some a => exact run_firstCells_some w.drew i.size 0 a 0 cap [] (by simp) (by simp)
            | cons r0 rs =>
              rw [← hrw]
              have hne' : rows ≠ [] := by rw [hrw]; simp
              obtain ⟨b, o, rfl, hat⟩ := hrows hne'
              have he1 : e1 = esz := by
                rcases hesz with h | h
                · exact h
                · rw [hrw] at h; simp at h
              subst he1
              refine ⟨run_firstCells_some w.drew i.size rows.length ⟨b, o, none⟩ rows.length cap _ (by rw [hsz]; exact flat_length hat.rowLen) (fun j v hj => ?_), hat.rowLen, hat.plain⟩
              rw [add_at]
              exact imCell_cell hkk.im_ok (hat.flat j v hj)
          obtain ⟨hold, hol, hop⟩ := hold
          obtain ⟨nc, rest, hnc, hrs, hrun⟩ := grow_run (P := P) (w := w) (tx := tx) (ty := ty) ht hi hz hzs hby (sCap := cap) hold hs (by omega) (by simpa [most] using hmost)
          obtain ⟨li, hlb, hvr, hbr, hle⟩ := sim_grown (im := im) (loc := loc) (r := { v := .own sto.length esz 0 (rows.length + new.length) (rows.length + new.length) false, news := [.arr esz (rows ++ new)], rd := tokOf y })
            (w' := w.drew.alloc (.cells (((rows.flatMap rowVals) ++ (new.flatMap rowVals)).toArray ++ rest) e)) rfl rfl hkk hne rfl hol hop hnl hnp hnc hrs
          subst h
          exact ⟨_, _, _, hrun, hvr, Eff.new hkk li rfl rfl rfl rfl rfl rfl hlb hbr⟩
        · cases h
      | own tk e1 off len cap ex =>
        dsimp only at h
        obtain ⟨li, a, cap', rfl, hl, he, hoff, hlen, hcap, hex, hadr⟩ := hx.own_inv
        cases hst : sto[tk]? with
        | none => rw [hst] at h; cases h
        | some blk =>
          rw [hst] at h
          cases blk with
          | arr e2 rows =>
            dsimp only at h
            split at h
            · cases h
            · rename_i hee
              have hee : e1 = esz := by simpa using hee
              subst hee
              split at h
              · -- room
                rename_i hroom
                have hroom : len + new.length ≤ cap := by simpa using hroom
                split at h
                · cases h
                · rename_i hfz
                  injection h with h
                  subst h
                  obtain ⟨hs, hnl, hnp⟩ := src_of (P := P) (w := w) hy hro htx hk.im_ok (fun t ht => hk.tok t (.inl ht))
                  rw [← hsz] at hs
                  obtain ⟨k, hk1, hb⟩ := hk.tok tk (.inr ⟨_, List.mem_singleton.2 rfl⟩) li hl
                  rw [hst] at hk1; injection hk1 with hk1; subst hk1
                  obtain ⟨b1, b2, b3⟩ := hb
                  have hrne : rows ≠ [] := by intro e; subst e; simp at b2; omega
                  have he2 : e2 = e1 := by rw [← b1, he]
                  subst he2
                  obtain ⟨arr, el, ha1, ha2, ha3, hat⟩ := b3 hrne
                  rcases hadr with h0 | ⟨_, rfl, hfit⟩
                  · omega
                  · have hnfl := flat_length hnl
                    have hmul := Nat.mul_le_mul_right e2 (show off + (len + new.length) ≤ rows.length by omega)
                    have hexp : (off + (len + new.length)) * e2 = off * e2 + len * e2 + new.length * e2 := by rw [Nat.add_mul, Nat.add_mul]; omega
                    have hle1 : li.sh + off * e2 + len * i.size + (new.flatMap rowVals).length ≤ arr.size := by rw [hsz, hnfl]; omega
                    have hrun := run_append_room_row (P := P) (w := w) t tx ty e i ht hi li.blk (li.sh + off * e2) len cap' v new.length (new.flatMap rowVals) hs (by omega) ha1 hle1
                    refine ⟨_, _, loc, hrun, ?_, ?_⟩
                    · exact .own tk e2 off (len + new.length) cap ex li _ cap' hl he hoff hroom hcap hex (.inr ⟨by omega, rfl, hfit⟩)
                    · refine Eff.write hk (t := tk) (k0 := .arr e2 rows) (li := li) rfl rfl hl hst (by cases rows with | nil => exact absurd rfl hrne | cons _ _ => rfl) (setRow_heap_eq ha1) rfl rfl rfl ?_
                      rw [setRows_spl _ _ _ (by omega)]
                      refine ⟨b1, by rw [spl_length _ _ _ (by omega)]; exact b2, fun _ => ⟨(spl (li.sh + off * e2 + len * i.size) (new.flatMap rowVals) arr.toList).toArray, el, ?_, ?_, ?_, ?_⟩⟩
                      · rw [setRow_heap_eq ha1]
                        have hlt := (Array.getElem?_eq_some_iff.1 ha1).1
                        simp [hlt]
                      · rw [← ha2]
                        simp only [List.size_toArray]
                        rw [spl_length _ _ _ (by simpa using hle1)]; simp
                      · rw [spl_length _ _ _ (by omega)]; exact ha3
                      · refine hat.spl (by omega) hnl hnp (fun k => ?_)
                        simp only [List.getElem?_toArray]
                        rw [spl_get _ _ _ (by simpa using hle1), hnfl]
                        have : li.sh + off * e2 + len * i.size = li.sh + (off + len) * e2 := by rw [hsz, Nat.add_mul]; omega
                        rw [this]
                        simp
              · rename_i hroom
                have hroom : ¬ (len + new.length ≤ cap) := by simpa using hroom
                split at h
                · cases h
                · rename_i hmost
                  have hmost : len + new.length ≤ 1048576 := by simpa [most] using hmost
                  -- the old rows
                  have old : ∀ (rd : List Nat) (wr : List (Nat × Blk)), (tk ∈ rd ∨ ∃ k, (tk, k) ∈ wr) →
                      Known im loc sto w { v := .own sto.length e1 0 (len + new.length) (len + new.length) false, news := [.arr e1 ((rows.drop off).take len ++ new)], wr := wr, rd := rd } →
                      (Builtin.firstCells i.size len (.slice a len cap')).run P w.drew = .ok (((rows.drop off).take len).flatMap rowVals).toArray w.drew ∧ ((rows.drop off).take len).length = len ∧
                        (∀ r ∈ (rows.drop off).take len, r.length = e1) ∧ (∀ r ∈ (rows.drop off).take len, ∀ c ∈ r, c.plain = true) := by
                    intro rd wr hmem hkk
                    obtain ⟨k, hk1, hb⟩ := hkk.tok tk hmem li hl
                    rw [hst] at hk1; injection hk1 with hk1; subst hk1
                    obtain ⟨b1, b2, b3⟩ := hb
                    have he2 : e2 = e1 := by rw [← b1, he]
                    subst he2
                    have hll : ((rows.drop off).take len).length = len := by simp; omega
                    by_cases hl0 : len = 0
                    · subst hl0
                      refine ⟨?_, hll, by simp, by simp⟩
                      simp only [List.take_zero, List.flatMap_nil]
                      cases a with
                      | none => exact run_firstCells_none w.drew i.size 0 0 cap'
                      | some a => exact run_firstCells_some w.drew i.size 0 a 0 cap' [] (by simp) (by simp)
                    · have hrne : rows ≠ [] := by intro e; subst e; simp at hll; omega
                      obtain ⟨arr, el, ha1, ha2, ha3, hat⟩ := b3 hrne
                      have hsub := (hat.drop off).take len
                      rcases hadr with h0 | ⟨_, rfl, _⟩
                      · omega
                      · refine ⟨run_firstCells_some w.drew i.size len _ len cap' _ (by rw [hsz, flat_length hsub.rowLen, hll]) (fun j v hj => ?_), hll, hsub.rowLen, hsub.plain⟩
                        rw [add_at]
                        exact cell_of_block (w := w) ha1 (hsub.flat j v hj)
                  split at h
                  · -- its capacity is known: it grows
                    rename_i hexx
                    injection h with h
                    have hkk : Known im loc sto w { v := .own sto.length e1 0 (len + new.length) (len + new.length) false, news := [.arr e1 ((rows.drop off).take len ++ new)], wr := [], rd := tk :: tokOf y } := by rw [h]; exact hk
                    obtain ⟨hold, hll, hol, hop⟩ := old (tk :: tokOf y) [] (.inl (by simp)) hkk
                    obtain ⟨hs, hnl, hnp⟩ := src_of (P := P) (w := w) hy hro htx hkk.im_ok (fun t ht => hkk.tok t (.inl (List.mem_cons_of_mem _ ht)))
                    rw [← hsz] at hs
                    have hce := hex hexx
                    obtain ⟨nc, rest, hnc, hrs, hrun⟩ := grow_run (P := P) (w := w) (tx := tx) (ty := ty) ht hi hz hzs hby (sCap := cap') hold hs (by omega) hmost
                    obtain ⟨lj, hlb, hvr, hbr, hle⟩ := sim_grown (im := im) (loc := loc) (olds := (rows.drop off).take len) (new := new) (r := { v := .own sto.length e1 0 (len + new.length) (len + new.length) false, news := [.arr e1 ((rows.drop off).take len ++ new)], wr := [], rd := tk :: tokOf y })
                      (w' := w.drew.alloc (.cells (((((rows.drop off).take len).flatMap rowVals) ++ (new.flatMap rowVals)).toArray ++ rest) e)) (by rw [hll]) rfl hkk hne rfl hol hop hnl hnp (by rw [hll]; exact hnc) (by rw [hll]; exact hrs)
                    subst h
                    rw [hll] at hvr
                    exact ⟨_, _, _, hrun, hvr, Eff.new hkk lj rfl rfl rfl rfl rfl rfl hlb hbr⟩
                  · rename_i hexx
                    split at h
                    · cases h
                    · rename_i hfz
                      injection h with h
                      have hkk : Known im loc sto w { v := .own sto.length e1 0 (len + new.length) (len + new.length) false, news := [.arr e1 ((rows.drop off).take len ++ new)], wr := [(tk, .dead)], rd := tokOf y } := by rw [h]; exact hk
                      obtain ⟨hold, hll, hol, hop⟩ := old (tokOf y) [(tk, .dead)] (.inr ⟨_, List.mem_singleton.2 rfl⟩) hkk
                      obtain ⟨hs, hnl, hnp⟩ := src_of (P := P) (w := w) hy hro htx hkk.im_ok (fun t ht => hkk.tok t (.inl ht))
                      have hs' := hs
                      rw [← hsz] at hs
                      subst h
                      rcases Nat.lt_or_ge cap' (len + new.length) with hg | hg
                      · -- it grows
                        obtain ⟨nc, rest, hnc, hrs, hrun⟩ := grow_run (P := P) (w := w) (tx := tx) (ty := ty) ht hi hz hzs hby (sCap := cap') hold hs hg hmost
                        obtain ⟨lj, hlb, hvr, hbr, hle⟩ := sim_grown (im := im) (loc := loc) (olds := (rows.drop off).take len) (new := new) (r := { v := .own sto.length e1 0 (len + new.length) (len + new.length) false, news := [.arr e1 ((rows.drop off).take len ++ new)], wr := [(tk, .dead)], rd := tokOf y })
                          (w' := w.drew.alloc (.cells (((((rows.drop off).take len).flatMap rowVals) ++ (new.flatMap rowVals)).toArray ++ rest) e)) (by rw [hll]) rfl hkk hne rfl hol hop hnl hnp (by rw [hll]; exact hnc) (by rw [hll]; exact hrs)
                        rw [hll] at hvr
                        refine ⟨_, _, _, hrun, hvr, ?_⟩
                        have base := Eff.new (r := { v := .own sto.length e1 0 (len + new.length) (len + new.length) false, news := [.arr e1 ((rows.drop off).take len ++ new)], wr := [], rd := tokOf y })
                          (w' := w.drew.alloc (.cells (((((rows.drop off).take len).flatMap rowVals) ++ (new.flatMap rowVals)).toArray ++ rest) e))
                          ⟨hkk.im_ok, fun t ht => hkk.tok t (by rcases ht with ht | ⟨k, ht⟩; exact .inl ht; cases ht), fun t k h => absurd h (by simp), hkk.fresh, fun t u li lj k k' h1 h2 => hkk.excl t u li lj k k' (by rcases h1 with h | ⟨k, h⟩; exact .inl h; cases h) (by rcases h2 with h | ⟨k, h⟩; exact .inl h; cases h)⟩ lj rfl rfl rfl rfl rfl rfl hlb hbr
                        exact { imle := base.imle, locle := base.locle, im_ok := base.im_ok, imnew := base.imnew, os := base.os, tape := base.tape, output := base.output, size := base.size,
                                frame := fun b hb _ => base.frame b hb (fun t k li k0 h => absurd h (by simp)),
                                wrs := (fun t k hm hs => by
                                  obtain ⟨rfl, rfl⟩ : t = tk ∧ k = .dead := by simpa using hm
                                  cases hs),
                                wr := fun t k li hm hl' => by
                                  obtain ⟨rfl, rfl⟩ : t = tk ∧ k = .dead := by simpa using hm
                                  trivial,
                                locnew := base.locnew,
                                news := fun j k li hj hl => by
                                  obtain ⟨h2, h3⟩ := base.news j k li hj hl
                                  refine ⟨h2, fun hs => ⟨(h3 hs).1, ?_⟩⟩
                                  rcases (h3 hs).2 with h | ⟨t, lt, k0, hm, _⟩
                                  · exact .inl h
                                  · exact absurd hm (by simp),
                                distinct := base.distinct }
                      · -- it stays where it is
                        obtain ⟨k, hk1, hb⟩ := hkk.tok tk (.inr ⟨_, List.mem_singleton.2 rfl⟩) li hl
                        rw [hst] at hk1; injection hk1 with hk1; subst hk1
                        obtain ⟨b1, b2, b3⟩ := hb
                        have he2 : e2 = e1 := by rw [← b1, he]
                        subst he2
                        rcases hadr with h0 | ⟨hn0, rfl, hfit⟩
                        · omega
                        · have hrne : rows ≠ [] := by intro e; subst e; simp at b2; omega
                          obtain ⟨arr, el, ha1, ha2, ha3, hat⟩ := b3 hrne
                          have hsub := (hat.drop off).take len
                          have hnfl := flat_length hnl
                          have hofl := flat_length hol
                          rw [hll] at hofl
                          have hmul := Nat.mul_le_mul_right e2 (show off + (len + new.length) ≤ off + cap' by omega)
                          have hexp : (off + (len + new.length)) * e2 = off * e2 + len * e2 + new.length * e2 := by rw [Nat.add_mul, Nat.add_mul]; omega
                          have hle1 : li.sh + off * e2 + len * i.size + (new.flatMap rowVals).length ≤ arr.size := by rw [hsz, hnfl]; omega
                          have hrun := run_append_room_row (P := P) (w := w) t tx ty e i ht hi li.blk (li.sh + off * e2) len cap' v new.length (new.flatMap rowVals) hs hg ha1 hle1
                          have hheap := setRow_heap_eq (cs := (spl (li.sh + off * e2 + len * i.size) (new.flatMap rowVals) arr.toList).toArray) ha1
                          have hlt := (Array.getElem?_eq_some_iff.1 ha1).1
                          have hsolid : (Blk.arr e2 rows).solid = true := by cases rows with | nil => exact absurd rfl hrne | cons _ _ => rfl
                          have hfree := hkk.free tk .dead (List.mem_singleton.2 rfl) li (.arr e2 rows) hl hst hsolid
                          let lj : LI := ⟨li.blk, li.sh + off * e2, e2, ((rows.drop off).take len ++ new).length, li.sz⟩
                          have hfr0 : loc sto.length = none := by have := hkk.fresh 0 (by simp); simpa using this
                          have hlj : lj.n = len + new.length := by simp only [lj, List.length_append, hll]
                          refine ⟨_, _, loc.set sto.length lj, hrun, ?_, ?_⟩
                          · exact .own sto.length e2 0 (len + new.length) (len + new.length) false lj _ cap' (Loc.set_same _ _ _) rfl (by omega) (Nat.le_refl _) hg (by simp)
                              (.inr ⟨by omega, by simp [lj], by simp only [lj, Nat.zero_add]; rw [Nat.add_mul] at hfit; omega⟩)
                          · have hbr : BR im (loc.set sto.length lj) (w.setRow li.blk (spl (li.sh + off * e2 + len * i.size) (new.flatMap rowVals) arr.toList).toArray) lj (.arr e2 ((rows.drop off).take len ++ new)) := by
                              refine ⟨rfl, rfl, fun _ => ⟨(spl (li.sh + off * e2 + len * i.size) (new.flatMap rowVals) arr.toList).toArray, el, by rw [hheap]; simp [lj, hlt], ?_, ?_, ?_⟩⟩
                              · simp only [lj, List.size_toArray]
                                rw [spl_length _ _ _ (by simpa using hle1)]; simpa using ha2
                              · simp only [lj, List.length_append, hll]
                                rw [Nat.add_mul]; rw [hexp] at hmul; omega
                              · refine RowsAt.ofFlat (fun r hr => ?_) (fun r hr => ?_) (fun j u hj => ?_)
                                · rcases List.mem_append.1 hr with h | h
                                  · exact hol r h
                                  · exact hnl r h
                                · rcases List.mem_append.1 hr with h | h
                                  · exact hop r h
                                  · exact hnp r h
                                · rw [List.flatMap_append] at hj
                                  simp only [lj, List.getElem?_toArray]
                                  rw [spl_get _ _ _ (by simpa using hle1), hnfl, hsz]
                                  rcases Nat.lt_or_ge j (len * e2) with hjl | hjl
                                  · rw [List.getElem?_append_left (by omega)] at hj
                                    rw [if_neg (by omega)]
                                    have := hsub.flat j u hj
                                    simpa using this
                                  · rw [List.getElem?_append_right (by omega), hofl] at hj
                                    have hjb := (List.getElem?_eq_some_iff.1 hj).1
                                    rw [if_pos ⟨by omega, by omega⟩, ← hj]
                                    congr 1
                                    omega
                            exact { imle := .refl _, locle := Loc.le_set lj hfr0,
                                    im_ok := fun b o hb => by
                                      have h1 := hkk.im_ok b o hb
                                      have hne2 : li.blk ≠ b := fun e => by rw [e, hb] at hfree; cases hfree
                                      rw [hheap, Array.getElem?_setIfInBounds, if_neg hne2]; exact h1,
                                    imnew := fun _ _ h => .inl h, os := rfl, tape := rfl, output := rfl,
                                    size := by rw [hheap]; simp,
                                    wrs := (fun t k hm hs => by
                                      obtain ⟨rfl, rfl⟩ : t = tk ∧ k = .dead := by simpa using hm
                                      cases hs),
                                    frame := fun b _ hb => by
                                      have hne2 := hb tk .dead li _ (List.mem_singleton.2 rfl) hl hst hsolid
                                      rw [hheap, Array.getElem?_setIfInBounds, if_neg hne2],
                                    wr := fun t k li hm hl' => by
                                      obtain ⟨rfl, rfl⟩ : t = tk ∧ k = .dead := by simpa using hm
                                      trivial,
                                    locnew := fun t l h => by
                                      unfold Loc.set at h
                                      split at h
                                      · rename_i e; subst e; exact .inr ⟨Nat.le_refl _, by simp⟩
                                      · exact .inl h,
                                    news := newsOf (fun j k hj => by
                                      cases j with
                                      | zero =>
                                        simp at hj; subst hj
                                        exact ⟨lj, Loc.set_same _ _ _, hbr, fun _ => ⟨hfree, .inr ⟨tk, li, _, List.mem_singleton.2 rfl, hl, hst, hsolid, rfl⟩⟩⟩
                                      | succ j => simp at hj),
                                    distinct := fun i j ki kj li lj h1 h2 _ _ _ _ _ => by
                                      cases i <;> cases j <;> simp at h1 h2 <;> rfl }
          | _ => cases h
      | _ => cases h

end
end Go.Vm

/- Operation by operation, seventh part: aggregates and rows that are built, slices that are cut. -/
namespace Go.Vm
section
variable {P : Program} {im : Im} {loc : Loc} {sto : Sto} {fz : List Nat} {w : World}

theorem run_foldlM_push {α β : Type} (f : α → Sem β) (g : α → β) (h : ∀ a, (f a).run P w = .ok (g a) w) :
    ∀ (xs : List α) (acc : Array β), (xs.foldlM (fun bs a => bs.push <$> f a) acc).run P w = .ok (acc ++ (xs.map g).toArray) w
  | [], acc => by simp
  | x :: xs, acc => by
    simp only [List.foldlM_cons, Sem.run_bind, Sem.run_map, h, Result.andThen_ok, run_foldlM_push f g h xs]
    congr 1
    apply Array.ext'
    simp

theorem run_mapM {α β : Type} (f : α → Sem β) (g : α → β) (xs : Array α) (h : ∀ a, (f a).run P w = .ok (g a) w) : (xs.mapM f).run P w = .ok (xs.map g) w := by
  rw [Array.mapM_eq_foldlM, ← Array.foldlM_toList, run_foldlM_push f g h]
  congr 1
  apply Array.ext'
  simp

theorem run_foldlM_push' {α β : Type} (f : α → Sem β) (g : α → β) :
    ∀ (xs : List α), (∀ a ∈ xs, (f a).run P w = .ok (g a) w) → ∀ (acc : Array β), (xs.foldlM (fun bs a => bs.push <$> f a) acc).run P w = .ok (acc ++ (xs.map g).toArray) w
  | [], _, acc => by simp
  | x :: xs, h, acc => by
    simp only [List.foldlM_cons, Sem.run_bind, Sem.run_map, h x (by simp), Result.andThen_ok, run_foldlM_push' f g xs (fun a ha => h a (by simp [ha]))]
    congr 1
    apply Array.ext'
    simp

theorem run_mapM' {α β : Type} (f : α → Sem β) (g : α → β) (xs : Array α) (h : ∀ a ∈ xs, (f a).run P w = .ok (g a) w) : (xs.mapM f).run P w = .ok (xs.map g) w := by
  rw [Array.mapM_eq_foldlM, ← Array.foldlM_toList, run_foldlM_push' f g xs.toList (fun a ha => h a (by simpa using ha))]
  congr 1
  apply Array.ext'
  simp

theorem foldl_set (off : Nat) : ∀ (xs : List Value) (k : Nat) (cells : Array Value), off + k + xs.length ≤ cells.size →
    ((xs.zipIdx k).foldl (fun (cs : Array Value) (p : Value × Nat) => cs.setIfInBounds (off + p.2) p.1) cells).toList = spl (off + k) xs cells.toList
  | [], k, cells, _ => by simp [spl]
  | x :: xs, k, cells, h => by
    simp only [List.length_cons] at h
    rw [List.zipIdx_cons, List.foldl_cons, foldl_set off xs (k + 1) _ (by simp; omega)]
    apply List.ext_getElem?
    intro j
    rw [spl_get _ _ _ (by simp; omega), spl_get _ _ _ (by simp; omega)]
    simp only [List.length_cons, Array.toList_setIfInBounds]
    by_cases h1 : off + (k + 1) ≤ j ∧ j < off + (k + 1) + xs.length
    · rw [if_pos h1, if_pos ⟨by omega, by omega⟩]
      obtain ⟨m, hm⟩ : ∃ m, j - (off + k) = m + 1 := ⟨j - (off + k) - 1, by omega⟩
      rw [hm, show j - (off + (k + 1)) = m by omega]; simp
    · rw [if_neg h1]
      by_cases h2 : j = off + k
      · subst h2
        rw [if_pos ⟨Nat.le_refl _, by omega⟩, List.getElem?_set_self (by simp; omega)]
        simp
      · rw [if_neg (by omega), List.getElem?_set_ne (by omega)]

theorem fill_step {place : Nat → Option (Nat × Nat)} {i off size : Nat} {v : Value} {rest : List (Nat × Value)} {cells : Array Value} (hp : place i = some (off, size)) (hs : v.cells.size = size)
    (hf : off + size ≤ cells.size) : Instr.fill place cells ((i, v) :: rest) = Instr.fill place ⟨spl off v.cells.toList cells.toList⟩ rest := by
  have he : (v.cells.zipIdx.foldl (fun cs (c, j) => cs.setIfInBounds (off + j) c) cells) = ⟨spl off v.cells.toList cells.toList⟩ := by
    apply Array.ext'
    rw [← Array.foldl_toList, Array.toList_zipIdx]
    have := foldl_set off v.cells.toList 0 cells (by simp; omega)
    simpa using this
  simp only [Instr.fill, hp]
  rw [if_neg (by simp [hs]; omega), he]

inductive PartsRel (im : Im) (loc : Loc) (place : Nat → Option (Nat × Nat)) : List (Nat × Nat × PV) → List (Nat × Value) → Prop
  | nil : PartsRel im loc place [] []
  | cons (off sz i : Nat) (x : PV) (v : Value) (r : List (Nat × Nat × PV)) (s : List (Nat × Value)) (hp : place i = some (off, sz)) (hv : VR im loc x v) (h : PartsRel im loc place r s) :
      PartsRel im loc place ((off, sz, x) :: r) ((i, v) :: s)

theorem sim_fill {place : Nat → Option (Nat × Nat)} : ∀ {ps : List (Nat × Nat × PV)} {qs : List (Nat × Value)}, PartsRel im loc place ps qs → ∀ {cs cs' : List PV} {vs : Array Value},
    VRL im loc cs vs.toList → fillCells ps cs = some cs' → ∃ vs', Instr.fill place vs qs = some vs' ∧ VRL im loc cs' vs'.toList
  | _, _, .nil, cs, cs', vs, h, hf => by
    simp only [fillCells, Option.some.injEq] at hf
    subst hf
    exact ⟨vs, rfl, h⟩
  | _, _, .cons off sz i x v r s hp hv hr, cs, cs', vs, h, hf => by
    simp only [fillCells] at hf
    cases hst : x.stored with
    | none => rw [hst] at hf; cases hf
    | some ws =>
      rw [hst] at hf
      dsimp only at hf
      split at hf
      · rename_i hc
        simp only [Bool.and_eq_true, Nat.beq_eq, Nat.ble_eq] at hc
        obtain ⟨rfl, hone⟩ := stored_inv hst
        have hvc := hv.cells hone
        have hl := hvc.length
        have hcl := h.length
        simp only [Array.length_toList] at hl hcl
        rw [fill_step hp (by omega) (by omega)]
        exact sim_fill hr (VRL.spl hvc h) hf
      · cases hf

theorem placeOf_struct {t : TypeId} {fs : Array Field} (hu : P.underlying t = some (.struct fs)) (hf : ∀ f ∈ fs, (P.info? f.type).isSome = true) :
    (fs.mapM fun f => do pure (f.offset, ← sizeOf f.type) : Sem (Array (Nat × Nat))).run P w = .ok (fs.map fun f => (f.offset, P.cellsOf f.type)) w ∧
    (fun i => (fs.map fun f => (f.offset, P.cellsOf f.type))[i]?) = placeOf P t := by
  constructor
  · refine run_mapM' _ _ _ fun f hm => ?_
    obtain ⟨i, hi⟩ := Option.isSome_iff_exists.1 (hf f hm)
    simp [sizeOf, typeInfo, hi, Program.cellsOf]
  · funext i
    unfold placeOf
    rw [hu]
    cases hfi : fs[i]? with
    | none => simp [hfi]
    | some f =>
      obtain ⟨j, hj⟩ := Option.isSome_iff_exists.1 (hf f (Array.mem_of_getElem? hfi))
      simp [hfi, hj, Program.cellsOf]

theorem sim_build {t : TypeId} {zero cs : List PV} {ps : List (Nat × Nat × PV)} {qs : Array (Nat × Value)} (hz : zeroIs P t zero = true)
    (hty : (match P.underlying t with | some (.struct fs) => fs.all fun f => (P.info? f.type).isSome | some (.array _ e) => (P.info? e).isSome | _ => false) = true)
    (hr : PartsRel im loc (placeOf P t) ps qs.toList) (hf : fillCells ps zero = some cs) : ∃ v, (Instr.build t qs).run P w = .ok v w ∧ VR im loc (.agg cs) v := by
  unfold zeroIs at hz
  cases hi : P.info? t with
  | none => rw [hi] at hz; cases hz
  | some i =>
    rw [hi] at hz
    cases hzz : i.zero with
    | none => simp [hzz] at hz
    | some z =>
      simp [hzz] at hz
      have hzr : (zeroValue t).run P w = .ok z w := by simp [zeroValue, typeInfo, hi, hzz]
      obtain ⟨vs', h1, h2⟩ := sim_fill hr (cvalL_ok hz) hf
      refine ⟨.agg vs', ?_, .agg cs vs'.toList h2⟩
      cases hu : P.underlying t with
      | none => rw [hu] at hty; cases hty
      | some d =>
        rw [hu] at hty
        cases d <;> first | cases hty | skip
        case array n e =>
          obtain ⟨j, hj⟩ := Option.isSome_iff_exists.1 hty
          have hp : (fun i => some (i * j.size, j.size)) = placeOf P t := by funext i; unfold placeOf; rw [hu]; simp [hj]
          have hsz : (sizeOf e).run P w = .ok j.size w := by simp [sizeOf, typeInfo, hj]
          simp only [Instr.build, Sem.run_bind, hzr, run_underlying hu, Result.andThen_ok, hsz, hp, h1, Sem.run_pure]
        case struct fs =>
          have hall : ∀ f ∈ fs, (P.info? f.type).isSome = true := by
            intro f hf
            have := Array.all_eq_true.1 hty
            obtain ⟨k, hk, rfl⟩ := Array.mem_iff_getElem.1 hf
            exact this k hk
          obtain ⟨hm, hp⟩ := placeOf_struct (P := P) (w := w) hu hall
          simp only [Instr.build, Sem.run_bind, hzr, run_underlying hu, Result.andThen_ok, hm, hp, h1, Sem.run_pure]

/-! ### rows -/

theorem rows_zero {zero : Row} {zs : Array Value} (h : ∀ (j : Nat) (c : PV), zero[j]? = some c → ∃ v, plainVal c = some v ∧ zs[j]? = some v) (hl : zero.length = zs.size) (n : Nat) :
    RowsAt (fun k => ((Array.range (n * zs.size)).map (zs[· % zs.size]!))[k]?) 0 zs.size (List.replicate n zero) := by
  intro i r hr
  have hi : i < n := by
    rcases Nat.lt_or_ge i n with h | h
    · exact h
    · rw [List.getElem?_eq_none (by simpa using h)] at hr; cases hr
  rw [List.getElem?_replicate, if_pos hi] at hr
  injection hr with hr; subst hr
  refine ⟨hl, fun j c hc => ?_⟩
  obtain ⟨v, hv, hz⟩ := h j c hc
  refine ⟨v, hv, ?_⟩
  have hj : j < zs.size := (Array.getElem?_eq_some_iff.1 hz).1
  have hlt : i * zs.size + j < n * zs.size := by
    have := Nat.mul_le_mul_right zs.size (show i + 1 ≤ n from hi)
    rw [Nat.add_mul] at this; omega
  have hmod : (i * zs.size + j) % zs.size = j := by rw [Nat.mul_comm, Nat.mul_add_mod]; exact Nat.mod_eq_of_lt hj
  simp only [Nat.zero_add]
  rw [Array.getElem?_map, Array.getElem?_range, if_pos hlt]
  simp only [Option.map_some, hmod]
  rw [getElem!_pos zs j hj]
  have := (Array.getElem?_eq_some_iff.1 hz).2
  rw [this]

inductive RowParts (im : Im) (loc : Loc) : List (Nat × PV) → List (Nat × Value) → Prop
  | nil : RowParts im loc [] []
  | cons (i : Nat) (x : PV) (v : Value) (r : List (Nat × PV)) (s : List (Nat × Value)) (hv : VR im loc x v) (h : RowParts im loc r s) : RowParts im loc ((i, x) :: r) ((i, v) :: s)

theorem sim_fillRows {esz n : Nat} : ∀ {ps : List (Nat × PV)} {qs : List (Nat × Value)}, RowParts im loc ps qs → ∀ {rows rows' : List Row} {vs : Array Value},
    RowsAt (fun k => vs[k]?) 0 esz rows → vs.size = n * esz → rows.length = n → fillRows ps rows esz = some rows' →
    ∃ vs', Instr.fill (fun i => some (i * esz, esz)) vs qs = some vs' ∧ RowsAt (fun k => vs'[k]?) 0 esz rows' ∧ vs'.size = n * esz ∧ rows'.length = n
  | _, _, .nil, rows, rows', vs, h, hs, hn, hf => by
    simp only [fillRows, Option.some.injEq] at hf
    subst hf
    exact ⟨vs, rfl, h, hs, hn⟩
  | _, _, .cons i x v r s hv hr, rows, rows', vs, h, hs, hn, hf => by
    simp only [fillRows] at hf
    cases hst : x.storedPlain with
    | none => rw [hst] at hf; cases hf
    | some ws =>
      rw [hst] at hf
      dsimp only at hf
      split at hf
      · rename_i hc
        have hc1 : ws.length = esz := by simp only [Bool.and_eq_true, Nat.beq_eq] at hc; exact hc.1
        have hc2 : i < rows.length := by simp only [Bool.and_eq_true] at hc; simpa using hc.2
        obtain ⟨rfl, hpl⟩ := storedPlain_inv hst
        have hvc := hv.cells (fun c hc => plain_isOne (hpl c hc))
        have hl := hvc.length
        simp only [Array.length_toList] at hl
        have hmul := Nat.mul_le_mul_right esz (show i + 1 ≤ n by omega)
        rw [Nat.add_mul] at hmul
        rw [fill_step (place := fun i => some (i * esz, esz)) rfl (by omega) (by omega)]
        have hgi : rows[i]? = some rows[i] := List.getElem?_eq_getElem hc2
        have hil := (h i _ hgi).1
        have hst2 := h.store (get' := fun k => (⟨spl (i * esz) v.cells.toList vs.toList⟩ : Array Value)[k]?) (off := 0) (ws := x.cells) (vs := v.cells.toList) hgi (by omega) (hvc.plainVals hpl) (by simp; omega) (fun k => by
          simp only [List.getElem?_toArray]
          rw [spl_get _ _ _ (by simp; omega)]
          simp)
        have hspl : spl 0 x.cells rows[i] = x.cells := by
          unfold spl; rw [List.drop_eq_nil_of_le (by omega)]; simp
        rw [hspl] at hst2
        exact sim_fillRows hr hst2 (by simp only [List.size_toArray]; rw [spl_length _ _ _ (by simp; omega)]; simpa using hs) (by simpa using hn) hf
      · cases hf

end
end Go.Vm

/- Operation by operation, last part: all of them. -/
namespace Go.Vm

def XOp.opds : XOp → List Opd
  | .mov x | .un _ x | .conv _ x | .len x | .box x | .load _ x | .nilc x | .fadr _ x | .fld _ _ x | .ext _ x => [x]
  | .pick a b c => [a, b, c]
  | .bin _ x y | .binb _ x y | .eqc _ _ x y | .store _ x y | .iadr _ x y | .iadra _ _ x y | .idx _ _ _ x y | .sidx x y | .mks _ _ x y | .append _ x y | .copy _ x y => [x, y]
  | .build _ ps => ps.map (·.2.2)
  | .mkrow _ _ _ ps => ps.map (·.2)
  | .slc _ x a b c => x :: (a.toList ++ b.toList ++ c.toList)
  | .mkf _ a b => a ++ b
  | .lookup _ _ _ m k => [m, k]
  | .mapu _ m k v => [m, k, v]
  | .clear _ _ x => [x]
  | .mm _ x xs => x :: xs
  | .call _ _ as => as
  | .callv x as => x :: as
  | .lenc _ | .alloc _ | .mkm | .bad => []

section
variable {P : Program} {im : Im} {loc : Loc} {sto : Sto} {fz : List Nat} {w : World} {e : Env} {ρ : Operand → Value}

theorem chkOpds_rel : ∀ {xs : List Opd} {os : List Operand}, (∀ x ∈ xs, ∀ o, chkOpd x o = true → VR im loc (x.ev e) (ρ o)) → chkOpds xs os = true → VRL im loc (evs e xs) (os.map ρ)
  | [], [], _, _ => .nil
  | x :: xs, o :: os, h, hc => by
    simp only [chkOpds, Bool.and_eq_true] at hc
    exact .cons _ _ _ _ (h x (by simp) o hc.1) (chkOpds_rel (fun y hy => h y (by simp [hy])) hc.2)
  | [], _ :: _, _, hc => by simp [chkOpds] at hc
  | _ :: _, [], _, hc => by simp [chkOpds] at hc

theorem chkParts_rel {place : Nat → Option (Nat × Nat)} : ∀ {ps : List (Nat × Nat × Opd)} {qs : List (Nat × Operand)}, (∀ x ∈ ps.map (·.2.2), ∀ o, chkOpd x o = true → VR im loc (x.ev e) (ρ o)) → chkParts place ps qs = true →
    PartsRel im loc place (ps.map fun p => (p.1, p.2.1, p.2.2.ev e)) (qs.map fun (i, x) => (i, ρ x))
  | [], [], _, _ => .nil
  | (off, sz, x) :: r, (i, o) :: s, h, hc => by
    simp only [chkParts, Bool.and_eq_true] at hc
    obtain ⟨⟨h1, h2⟩, h3⟩ := hc
    refine .cons off sz i _ _ _ _ ?_ (h x (by simp) o h2) (chkParts_rel (fun y hy => h y (by simp only [List.map_cons, List.mem_cons]; exact .inr hy)) h3)
    cases hp : place i with
    | none => rw [hp] at h1; cases h1
    | some q =>
      rw [hp] at h1
      simp only [Bool.and_eq_true, beq_iff_eq] at h1
      obtain ⟨rfl, rfl⟩ := h1
      rfl
  | [], _ :: _, _, hc => by simp [chkParts] at hc
  | _ :: _, [], _, hc => by simp [chkParts] at hc

theorem chkRowParts_rel : ∀ {ps : List (Nat × Opd)} {qs : List (Nat × Operand)}, (∀ x ∈ ps.map (·.2), ∀ o, chkOpd x o = true → VR im loc (x.ev e) (ρ o)) → chkRowParts ps qs = true →
    RowParts im loc (ps.map fun p => (p.1, p.2.ev e)) (qs.map fun (i, x) => (i, ρ x))
  | [], [], _, _ => .nil
  | (i, x) :: r, (j, o) :: s, h, hc => by
    simp only [chkRowParts, Bool.and_eq_true, beq_iff_eq] at hc
    obtain ⟨⟨rfl, h2⟩, h3⟩ := hc
    exact .cons i _ _ _ _ (h x (by simp) o h2) (chkRowParts_rel (fun y hy => h y (by simp only [List.map_cons, List.mem_cons]; exact .inr hy)) h3)
  | [], _ :: _, _, hc => by simp [chkRowParts] at hc
  | _ :: _, [], _, hc => by simp [chkRowParts] at hc

theorem zero_row {t : TypeId} {zero : Row} (h : zeroIs P t zero = true) (hp : zero.all PV.plain = true) :
    ∃ i z, P.info? t = some i ∧ i.zero = some z ∧ zero.length = z.cells.size ∧ ∀ (j : Nat) (c : PV), zero[j]? = some c → ∃ v, plainVal c = some v ∧ z.cells[j]? = some v := by
  unfold zeroIs at h
  cases hi : P.info? t with
  | none => rw [hi] at h; cases h
  | some i =>
    rw [hi] at h
    cases hz : i.zero with
    | none => simp [hz] at h
    | some z =>
      simp [hz] at h
      have hr : VRL (fun _ => none) (fun _ => none) zero z.cells.toList := cvalL_ok h
      refine ⟨i, z, rfl, hz, by simpa using hr.length, fun j c hc => ?_⟩
      obtain ⟨v, hv, hvv⟩ := hr.get j c hc
      refine ⟨v, hvv.plain ?_, by simpa using hv⟩
      have := List.all_eq_true.1 hp c (List.mem_of_getElem? hc)
      exact this

/-- New rows that the call owns. -/
theorem sim_newrows {esz n len cap : Nat} {rows : List Row} {vs : Array Value} {el : TypeId} {r : Res} (hr : r = { v := .own sto.length esz 0 len cap true, news := [.arr esz rows] }) (hk : Known im loc sto w r)
    (hat : RowsAt (fun k => vs[k]?) 0 esz rows) (hs : vs.size = n * esz) (hn : rows.length = n) (hc : cap = n) (hl : len ≤ cap) :
    ∃ loc', VR im loc' r.v (.slice (some ⟨w.heap.size, 0, none⟩) len cap) ∧ Eff im loc sto w r im loc' { w with heap := w.heap.push (.cells vs el) } := by
  subst hr hc
  let li : LI := ⟨w.heap.size, 0, esz, cap, vs.size⟩
  refine ⟨loc.set sto.length li, ?_, ?_⟩
  · refine .own sto.length esz 0 len cap true li _ cap (Loc.set_same _ _ _) rfl (by simp [li]) hl (Nat.le_refl _) (fun _ => rfl) ?_
    rcases Nat.eq_zero_or_pos cap with h | h
    · exact .inl h
    · exact .inr ⟨by simp [li]; omega, by simp [li], by simp [li, hs]⟩
  · exact Eff.new hk li rfl rfl rfl rfl rfl rfl rfl ⟨rfl, hn.symm, fun _ => ⟨vs, el, by simp [li], rfl, by simp [li, hs, hn], hat⟩⟩

theorem mm_fold {isMax : Bool} {k : IntKind} : ∀ {ys : List PV} {us : List Value}, VRL im loc ys us → ∀ {a : Int} {z : PV}, mmE isMax k a ys = some z →
    ∃ b, z = .int k b ∧ (us.foldlM (if isMax then Builtin.max2 else Builtin.min2) (.int k a)).run P w = .ok (.int k b) w
  | _, _, .nil, a, z, h => by
    simp only [mmE, Option.some.injEq] at h
    exact ⟨a, h.symm, rfl⟩
  | _, _, .cons y u ys us hy hs, a, z, h => by
    unfold mmE at h
    cases y with
    | int l c =>
      obtain rfl := hy.int_inv
      dsimp only at h
      cases hkl : kindEq k l with
      | false => rw [hkl] at h; cases h
      | true =>
        have := kindEq_iff.1 hkl; subst this
        rw [hkl, if_pos rfl] at h
        obtain ⟨b, hz, ih⟩ := mm_fold (isMax := isMax) hs h
        refine ⟨b, hz, ?_⟩
        rw [List.foldlM_cons, Sem.run_bind]
        cases isMax with
        | true => simp only [if_true] at ih ⊢; simp only [Builtin.max2, Sem.run_pure, Result.andThen_ok]; exact ih
        | false => simp only [Bool.false_eq_true, if_false] at ih ⊢; simp only [Builtin.min2, Sem.run_pure, Result.andThen_ok]; exact ih
    | _ => cases h

end
end Go.Vm

/- Operation by operation: all that call nothing. -/
namespace Go.Vm

/-- What an operation that calls nothing comes to. -/
def OpSim (P : Program) (ρ : Operand → Value) (o : Oper) (im : Im) (loc : Loc) (sto : Sto) (w : World) (r : Res) : Prop :=
  ∃ nx w' loc', (execOp ρ o).run P w = .ok nx w' ∧ ((nx = .skip ∧ r.v = .undef) ∨ ∃ v, nx = .value v ∧ VR im loc' r.v v) ∧ Eff im loc sto w r im loc' w'

section
variable {P : Program} {im : Im} {loc : Loc} {sto : Sto} {fz : List Nat} {w : World} {e : Env} {ρ : Operand → Value}

theorem OpSim.pure {o : Oper} {r : Res} {v : Value} (hk : Known im loc sto w r) (hn : r.news = []) (hw : r.wr = []) (h : (execOp ρ o).run P w = .ok (.value v) w) (hv : VR im loc r.v v) :
    OpSim P ρ o im loc sto w r := ⟨_, w, loc, h, .inr ⟨v, rfl, hv⟩, Eff.none hk hn hw⟩

theorem matches_bool {t : TypeId} (h : (P.underlying t matches some .bool) = true) : P.underlying t = some .bool := by
  split at h
  · assumption
  · cases h

theorem chkOpo_bound {x : Option Opd} {o : Option Operand} {n : Option Nat} (hρ : ∀ y ∈ x.toList, ∀ o, chkOpd y o = true → VR im loc (y.ev e) (ρ o)) (hc : chkOpo x o = true)
    (h : (match (generalizing := false) x with | none => some none | some a => (asNat (a.ev e)).map some) = some n) : BoundV (o.map ρ) n := by
  cases x with
  | none =>
    cases o with
    | none => injection h with h; subst h; trivial
    | some o => cases hc
  | some a =>
    cases o with
    | none => cases hc
    | some o =>
      simp only [Option.map_eq_some_iff] at h
      obtain ⟨m, hm, rfl⟩ := h
      exact asNat_inv (hρ a (by simp) o hc) hm

theorem run_sliceAt {t el : TypeId} {esz : Nat} {a : Option Addr} {len cap l h m : Nat} {vl vh vm : Option Value} (hu : P.underlying t = some (.slice el)) (hs : szIs P el esz = true)
    (hb : (Instr.sliceBounds true len cap vl vh vm).run P w = .ok (l, h, m) w) :
    (Instr.sliceAt t (.slice a len cap) vl vh vm).run P w = .ok (.slice (if m = l then a else a.map (·.add (l * esz))) (h - l) (m - l)) w := by
  simp only [Instr.sliceAt, Sem.run_bind, run_underlying hu, Result.andThen_ok, Instr.slice, hb, szIs_run hs, Sem.run_pure]

theorem sim_slice {t el : TypeId} {esz : Nat} {x z : PV} {u : Value} {lo hi mx : Option Nat} {vl vh vm : Option Value} (hx : VR im loc x u) (hu : P.underlying t = some (.slice el)) (hs : szIs P el esz = true)
    (h1 : BoundV vl lo) (h2 : BoundV vh hi) (h3 : BoundV vm mx) (hm : mx.isSome = true → hi.isSome = true) (hesz : ∀ e c r, x = .sl e c r → r = [] ∨ e = esz) (hesz2 : ∀ tk e o l c ex, x = .own tk e o l c ex → e = esz)
    (h : sliceE x lo hi mx = some z) : ∃ v, (Instr.sliceAt t u vl vh vm).run P w = .ok v w ∧ VR im loc z v := by
  unfold sliceE at h
  cases x with
  | sl e clip rows =>
    obtain ⟨a, cap, rfl, hcap, hck, hrows⟩ := hx.sl_inv
    dsimp only at h
    have sub : ∀ (l h m : Nat) (clip' : Bool), l ≤ h → h ≤ rows.length → h ≤ m → m ≤ cap → (clip' = true → m = h) →
        VR im loc (.sl e clip' ((rows.drop l).take (h - l))) (.slice (if m = l then a else a.map (·.add (l * esz))) (h - l) (m - l)) := by
      intro l h m clip' hlh hhr hhm hmc hcl
      have hlen : ((rows.drop l).take (h - l)).length = h - l := by simp; omega
      have := VR.sl (im := im) (loc := loc) e clip' ((rows.drop l).take (h - l)) (if m = l then a else a.map (·.add (l * esz))) (m - l) (by omega) (fun hc => by have := hcl hc; omega) (fun hne => by
        have hlt : l < h := by
          rcases Nat.lt_or_ge l h with h' | h'
          · exact h'
          · exfalso; apply hne; rw [show h - l = 0 by omega]; simp
        have hrne : rows ≠ [] := by intro e; subst e; simp at hhr; omega
        obtain ⟨b, o, rfl, hat⟩ := hrows hrne
        have he : e = esz := (hesz e clip rows rfl).resolve_left hrne
        subst he
        refine ⟨b, o + l * e, ?_, (hat.drop l).take _⟩
        rw [if_neg (by omega)]
        simp [add_at])
      rwa [hlen] at this
    cases mx with
    | none =>
      dsimp only at h
      split at h
      · rename_i hc
        simp only [Bool.and_eq_true, Nat.ble_eq] at hc
        injection h with h; subst h
        have hb := run_sliceBounds (P := P) (w := w) (len := rows.length) (cap := cap) h1 h2 h3 hm hc.1 (fun _ => by simp; omega) (by simp)
        simp only [Option.getD_none] at hb
        refine ⟨_, run_sliceAt hu hs hb, sub _ _ cap _ hc.1 hc.2 (by omega) (Nat.le_refl _) (fun hcl => ?_)⟩
        simp only [Bool.and_eq_true, Nat.beq_eq] at hcl
        have := hck hcl.1; omega
      · cases h
    | some m =>
      dsimp only at h
      split at h
      · rename_i hc
        simp only [Bool.and_eq_true, Nat.ble_eq] at hc
        injection h with h; subst h
        have hb := run_sliceBounds (P := P) (w := w) (len := rows.length) (cap := cap) h1 h2 h3 hm hc.1.1 (fun _ => hc.1.2) (by simp; omega)
        simp only [Option.getD_some] at hb
        refine ⟨_, run_sliceAt hu hs hb, sub _ _ m _ hc.1.1 (by omega) hc.1.2 (by omega) (fun hcl => ?_)⟩
        simp only [Nat.beq_eq] at hcl
        exact hcl.symm
      · cases h
  | own tk e off len cap ex =>
    obtain ⟨li, a, cap', rfl, hl, he, hoff, hlen, hcap, hex, hadr⟩ := hx.own_inv
    have hee := hesz2 tk e off len cap ex rfl
    subst hee
    dsimp only at h
    have sub : ∀ (l h c m m' : Nat) (ex' : Bool), l ≤ h → h ≤ m → m ≤ cap → m ≤ m' → m' ≤ cap' → (ex' = true → m' = m) →
        VR im loc (.own tk e (off + l) (h - l) (m - l) ex') (.slice (if m' = l then a else a.map (·.add (l * e))) (h - l) (m' - l)) := by
      intro l h c m m' ex' hlh hhm hmc hmm hmc' hex'
      refine .own tk e (off + l) (h - l) (m - l) ex' li _ (m' - l) hl he (by omega) (by omega) (by omega) (fun hx => by have := hex' hx; omega) ?_
      by_cases hml : m' = l
      · exact .inl (by omega)
      · rw [if_neg hml]
        rcases hadr with h0 | ⟨hn0, rfl, hfit⟩
        · exact .inl (by omega)
        · refine .inr ⟨hn0, ?_, ?_⟩
          · simp only [Option.map_some, add_at]; congr 2; rw [Nat.add_mul]; omega
          · have := Nat.mul_le_mul_right e (show off + l + (m' - l) ≤ off + cap' by omega)
            omega
    cases mx with
    | none =>
      dsimp only at h
      split at h
      · rename_i hc
        simp only [Bool.and_eq_true, Nat.ble_eq] at hc
        injection h with h; subst h
        have hb := run_sliceBounds (P := P) (w := w) (len := len) (cap := cap') h1 h2 h3 hm hc.1 (fun _ => by simp; omega) (by simp)
        simp only [Option.getD_none] at hb
        exact ⟨_, run_sliceAt hu hs hb, sub _ _ 0 cap cap' ex hc.1 hc.2 (Nat.le_refl _) hcap (Nat.le_refl _) hex⟩
      · cases h
    | some m =>
      dsimp only at h
      split at h
      · rename_i hc
        simp only [Bool.and_eq_true, Nat.ble_eq] at hc
        injection h with h; subst h
        have hb := run_sliceBounds (P := P) (w := w) (len := len) (cap := cap') h1 h2 h3 hm hc.1.1 (fun _ => hc.1.2) (by simp; omega)
        simp only [Option.getD_some] at hb
        exact ⟨_, run_sliceAt hu hs hb, sub _ _ 0 m m true hc.1.1 hc.1.2 hc.2 (Nat.le_refl _) (by omega) (fun _ => rfl)⟩
      · cases h
  | _ => cases h

end
end Go.Vm

/- Two aggregates of plain cells are compared cell by cell. -/
namespace Go.Vm

theorem eqCells_append : ∀ (a b c d : List PV), a.length = b.length → eqCells (a ++ c) (b ++ d) = match eqCells a b with | some true => eqCells c d | x => x
  | [], [], c, d, _ => by simp [eqCells]
  | x :: xs, y :: ys, c, d, h => by
    simp only [List.cons_append, eqCells]
    cases eqCell x y with
    | none => rfl
    | some r =>
      cases r with
      | false => rfl
      | true => exact eqCells_append xs ys c d (by simpa using h)
  | [], _ :: _, _, _, h => by simp at h
  | _ :: _, [], _, _, h => by simp at h

section
variable {P : Program} {im : Im} {loc : Loc} {w : World}

def whole (P : Program) (t : TypeId) (us : List Value) : Value := if isRowT P t then .agg ⟨us⟩ else us.getD 0 Go.undef

def flatStep (P : Program) (d : Nat) (r : Option Nat) (f : Field) : Option Nat :=
  match r with
  | some n => if f.offset == n && f.name != "_" then (match flat P d f.type with
    | some m => if szIs P f.type m then some (n + m) else none
    | none => none) else none
  | none => none

theorem flatStep_none {d : Nat} : ∀ (fs : List Field), fs.foldl (flatStep P d) none = none
  | [] => rfl
  | f :: fs => by rw [List.foldl_cons]; exact flatStep_none fs

theorem flat_one_row {d : Nat} {t : TypeId} {n : Nat} (h : flat P d t = some n) (hr : isRowT P t = false) : n = 1 := by
  cases d with
  | zero => cases h
  | succ d =>
    simp only [flat] at h
    split at h
    · split at h
      · injection h with h; exact h.symm
      · cases h
    · rename_i fs hu
      unfold isRowT at hr; rw [hu] at hr; cases hr
    · cases h

theorem part_whole {d : Nat} {t : TypeId} {m k : Nat} {us : List Value} (h : flat P d t = some m) (hs : szIs P t m = true) (hk : k + m ≤ us.length) (hsome : (P.underlying t).isSome = true) :
    (Go.part t ⟨us⟩ k).run P w = .ok (whole P t ((us.drop k).take m)) w := by
  unfold whole
  cases hr : isRowT P t with
  | true =>
    simp only [Go.part, Sem.run_bind, isAgg_row hr, Result.andThen_ok, if_true, szIs_run hs, Sem.run_pure]
    congr 2
    apply Array.ext'
    simp [List.extract_eq_take_drop]
  | false =>
    have h1 := flat_one_row h hr
    subst h1
    simp only [Go.part, Sem.run_bind, isAgg_one hsome hr, Result.andThen_ok, Bool.false_eq_true, if_false]
    have hlt : k < us.length := by omega
    have : (⟨us⟩ : Array Value)[k]? = some us[k] := by simp [hlt]
    rw [this]
    simp [List.getD, hlt]

theorem flat_some {d : Nat} {t : TypeId} {n : Nat} (h : flat P d t = some n) : (P.underlying t).isSome = true := by
  cases d with
  | zero => cases h
  | succ d =>
    simp only [flat] at h
    cases hu : P.underlying t with
    | none => rw [hu] at h; cases h
    | some _ => rfl

theorem foldl_ge {d : Nat} : ∀ {fs : List Field} {k n : Nat}, fs.foldl (flatStep P d) (some k) = some n → k ≤ n
  | [], k, n, h => by simp at h; omega
  | f :: fs, k, n, h => by
    rw [List.foldl_cons] at h
    cases hs : flatStep P d (some k) f with
    | none => rw [hs, flatStep_none] at h; cases h
    | some k' =>
      rw [hs] at h
      have := foldl_ge h
      unfold flatStep at hs
      dsimp only at hs
      split at hs
      · split at hs
        · split at hs
          · injection hs with hs; omega
          · cases hs
        · cases hs
      · cases hs

theorem flat_eq : ∀ (d : Nat) (t : TypeId) (n : Nat), flat P d t = some n → ∀ (D : Nat), d ≤ D → ∀ (xs ys : List PV) (us vs : List Value) (b : Bool), VRL im loc xs us → VRL im loc ys vs → xs.length = n → ys.length = n →
    eqCells xs ys = some b → (Op.equalIn D t (whole P t us) (whole P t vs)).run P w = .ok b w
  | 0, t, n, h, _, _, _, _, _, _, _, _, _, _, _, _ => by cases h
  | d + 1, t, n, h, 0, hD, _, _, _, _, _, _, _, _, _, _ => by omega
  | d + 1, t, n, h, D + 1, hD, xs, ys, us, vs, b, hx, hy, hxn, hyn, he => by
    have hscalar : isRowT P t = false → n = 1 → ∃ x y u v, xs = [x] ∧ ys = [y] ∧ us = [u] ∧ vs = [v] ∧ VR im loc x u ∧ VR im loc y v ∧ eqCell x y = some b := by
      intro hr h1
      subst h1
      match xs, us, ys, vs, hx, hy, hxn, hyn, he with
      | [x], [u], [y], [v], .cons _ _ _ _ h1 _, .cons _ _ _ _ h2 _, _, _, he =>
        refine ⟨x, y, u, v, rfl, rfl, rfl, rfl, h1, h2, ?_⟩
        simp only [eqCells] at he
        cases hc : eqCell x y with
        | none => rw [hc] at he; cases he
        | some r => rw [hc] at he; cases r <;> simpa using he
    simp only [flat] at h
    split at h
    · rename_i k hu
      have hr : isRowT P t = false := by unfold isRowT; rw [hu]
      split at h
      · injection h with h
        obtain ⟨x, y, u, v, rfl, rfl, rfl, rfl, h1, h2, h3⟩ := hscalar hr h.symm
        simp only [whole, hr, Bool.false_eq_true, if_false, List.getD, List.getElem?_cons_zero, Option.getD_some]
        unfold eqCell at h3
        split at h3
        · split at h3
          · rename_i hk
            have := kindEq_iff.1 hk; subst this
            injection h3 with h3; subst h3
            rw [h1.int_inv, h2.int_inv]
            exact run_equalIn_int w D t _ _ _ _ hu
          · cases h3
        · cases h3
      · cases h
    · rename_i fs hu
      have hr : isRowT P t = true := by unfold isRowT; rw [hu]
      split at h
      · cases h
      · rename_i hst
        have hf : P.fieldsOf t = fs := by simp [Program.fieldsOf, hu]
        have hst : P.stoodInHeld t = false := by simpa using hst
        have hxl := hx.length
        have hyl := hy.length
        simp only [whole, hr, if_true]
        rw [run_equalIn_agg w D t _ _ (by rw [hf]; exact hu) hst, hf]
        change (match fs.toList.foldl (flatStep P d) (some 0) with | some n => if szIs P t n then some n else none | none => none) = some n at h
        cases hfo : fs.toList.foldl (flatStep P d) (some 0) with
        | none => rw [hfo] at h; cases h
        | some n' =>
          rw [hfo] at h
          dsimp only at h
          split at h
          · injection h with h
            subst h
            have key : ∀ (l : List Field) (k : Nat), l.foldl (flatStep P d) (some k) = some n' → ∀ (b' : Bool), eqCells (xs.drop k) (ys.drop k) = some b' →
                (Op.eqFields D ⟨us⟩ ⟨vs⟩ l).run P w = .ok b' w := by
              intro l
              induction l with
              | nil =>
                intro k hk b' hb'
                simp only [List.foldl_nil, Option.some.injEq] at hk
                subst hk
                rw [List.drop_eq_nil_of_le (by omega), List.drop_eq_nil_of_le (by omega)] at hb'
                simp only [eqCells, Option.some.injEq] at hb'
                subst hb'
                simp [Op.eqFields]
              | cons f l ih =>
                intro k hk b' hb'
                rw [List.foldl_cons] at hk
                cases hs : flatStep P d (some k) f with
                | none => rw [hs, flatStep_none] at hk; cases hk
                | some k' =>
                  rw [hs] at hk
                  have hge := foldl_ge hk
                  unfold flatStep at hs
                  dsimp only at hs
                  split at hs
                  · rename_i hc
                    simp only [Bool.and_eq_true, beq_iff_eq, bne_iff_ne, ne_eq] at hc
                    split at hs
                    · rename_i m hm
                      split at hs
                      · rename_i hsz
                        injection hs with hs
                        subst hs
                        have hsome := flat_some hm
                        have e1 : xs.drop k = (xs.drop k).take m ++ xs.drop (k + m) := by rw [← List.drop_drop, List.take_append_drop]
                        have e2 : ys.drop k = (ys.drop k).take m ++ ys.drop (k + m) := by rw [← List.drop_drop, List.take_append_drop]
                        rw [e1, e2, eqCells_append _ _ _ _ (by simp; omega)] at hb'
                        have hne : f.name ≠ "_" := hc.2
                        simp only [Op.eqFields, Sem.run_bind, hne, ne_eq, not_false_eq_true, if_true, hc.1]
                        rw [part_whole (w := w) hm hsz (by omega) hsome]
                        simp only [Result.andThen_ok]
                        rw [part_whole (w := w) hm hsz (by omega) hsome]
                        simp only [Result.andThen_ok]
                        cases hq : eqCells ((xs.drop k).take m) ((ys.drop k).take m) with
                        | none => rw [hq] at hb'; cases hb'
                        | some r =>
                          have hrec := flat_eq d f.type m hm D (by omega) _ _ _ _ r ((hx.drop k).take m) ((hy.drop k).take m) (by simp; omega) (by simp; omega) hq
                          rw [hrec]
                          simp only [Result.andThen_ok]
                          rw [hq] at hb'
                          cases r with
                          | false =>
                            simp only [Option.some.injEq] at hb'
                            subst hb'
                            simp
                          | true =>
                            dsimp only at hb'
                            have := ih (k + m) hk b' hb'
                            simpa using this
                      · cases hs
                    · cases hs
                  · cases hs
            exact key fs.toList 0 hfo b (by simpa using he)
          · cases h
    · cases h

end
end Go.Vm

/- Maps; copy and clear. -/
namespace Go.Vm

theorem VR.of_valOf {im : Im} {loc : Loc} {x : PV} {v : Value} (h : valOf x = some v) : VR im loc x v := by
  cases x with
  | agg cs =>
    simp only [valOf, Option.map_eq_some_iff] at h
    obtain ⟨vs, hvs, rfl⟩ := h
    refine .agg cs vs ?_
    induction cs generalizing vs with
    | nil => simp at hvs; subst hvs; exact .nil
    | cons c cs ih =>
      rw [List.mapM_cons] at hvs
      simp only [Option.bind_eq_bind, Option.bind_eq_some_iff, Option.pure_def, Option.some.injEq] at hvs
      obtain ⟨v, hv, us, hus, rfl⟩ := hvs
      exact .cons _ _ _ _ (.of_plain hv) (ih us hus)
  | _ => exact .of_plain h

theorem valOf_of {im : Im} {loc : Loc} {x : PV} {v : Value} (h : VR im loc x v) (hp : ∀ c ∈ x.cells, c.plain = true) : valOf x = some v := by
  cases x with
  | agg cs =>
    obtain ⟨vs, rfl, hr⟩ := h.agg_inv
    simp only [valOf, Option.map_eq_some_iff]
    refine ⟨vs, ?_, rfl⟩
    simp only [PV.cells] at hp
    clear h
    induction cs generalizing vs with
    | nil => cases hr; rfl
    | cons c cs ih =>
      cases hr with
      | cons _ v _ us h1 h2 =>
        rw [List.mapM_cons]
        simp [h1.plain (hp c (by simp)), ih (fun d hd => hp d (by simp [hd])) us h2]
  | _ => exact h.plain (hp _ (by simp [PV.cells]))

section
variable {P : Program} {im : Im} {loc : Loc} {sto : Sto} {fz : List Nat} {w : World}

theorem eqCells_true : ∀ {xs ys : List PV} {us vs : List Value}, eqCells xs ys = some true → VRL im loc xs us → VRL im loc ys vs → us = vs ∧ ∀ u ∈ us, ∃ k n, u = .int k n
  | [], [], _, _, _, .nil, .nil => ⟨rfl, by simp⟩
  | x :: xs, y :: ys, _, _, h, .cons _ u _ us h1 h2, .cons _ v _ vs h3 h4 => by
    simp only [eqCells] at h
    split at h
    · rename_i hxy
      obtain ⟨rfl, hall⟩ := eqCells_true h h2 h4
      unfold eqCell at hxy
      split at hxy
      · rename_i k a l b
        split at hxy
        · rename_i hkl
          have := kindEq_iff.1 hkl; subst this
          have hab : a = b := by simpa using hxy
          subst hab
          rw [h1.int_inv, h3.int_inv]
          exact ⟨rfl, by
            intro u hu
            rcases List.mem_cons.1 hu with rfl | hu
            · exact ⟨_, _, rfl⟩
            · exact hall u hu⟩
        · cases hxy
      · cases hxy
    · cases h
    · cases h
  | [], _ :: _, _, _, h, _, _ => by simp [eqCells] at h
  | _ :: _, [], _, _, h, _, _ => by simp [eqCells] at h

theorem sameBits_ints : ∀ (us : List Value) (n : Nat), (∀ u ∈ us, ∃ k m, u = .int k m) → (us.zip us).all (fun (x, y) => Instr.sameBits n x y) = true
  | [], _, _ => rfl
  | u :: us, n, h => by
    obtain ⟨k, m, rfl⟩ := h u (by simp)
    simp only [List.zip_cons_cons, List.all_cons, Bool.and_eq_true]
    exact ⟨by cases n <;> simp [Instr.sameBits], sameBits_ints us n fun u hu => h u (by simp [hu])⟩

theorem keyOk_cells {n : Option Nat} {x : PV} {u : Value} (h : keyOk n x = true) (hv : VR im loc x u) : (n = none ∧ ∃ k m, x = .int k m ∧ u = .int k m) ∨ (∃ m cs us, n = some m ∧ x = .agg cs ∧ cs.length = m ∧ u = .agg ⟨us⟩ ∧ VRL im loc cs us) := by
  unfold keyOk at h
  split at h
  · exact .inl ⟨rfl, _, _, rfl, hv.int_inv⟩
  · rename_i m cs
    obtain ⟨us, rfl, hr⟩ := hv.agg_inv
    exact .inr ⟨m, cs, us, rfl, rfl, by simpa using h, rfl, hr⟩
  · cases h

theorem key_same {n : Option Nat} {x y : PV} {u v : Value} (hx : keyOk n x = true) (hy : keyOk n y = true) (h : eqCells x.cells y.cells = some true) (hu : VR im loc x u) (hv : VR im loc y v) :
    u = v ∧ Instr.sameBits 10000 u u = true := by
  rcases keyOk_cells hx hu with ⟨rfl, k, m, rfl, rfl⟩ | ⟨m, cs, us, rfl, rfl, _, rfl, hr⟩
  · rcases keyOk_cells hy hv with ⟨_, l, m', rfl, rfl⟩ | ⟨_, _, _, h', _⟩
    · obtain ⟨h1, _⟩ := eqCells_true (im := im) (loc := loc) h (.cons _ _ _ _ (.int k m) .nil) (.cons _ _ _ _ (.int l m') .nil)
      injection h1 with h1
      exact ⟨h1, by simp [Instr.sameBits]⟩
    · cases h'
  · rcases keyOk_cells hy hv with ⟨h', _⟩ | ⟨_, ds, vs, _, rfl, _, rfl, hs⟩
    · cases h'
    · obtain ⟨rfl, h2⟩ := eqCells_true h hr hs
      refine ⟨rfl, ?_⟩
      simp only [Instr.sameBits, beq_self_eq_true, Bool.true_and]
      exact sameBits_ints us 9999 h2

theorem MapRel.get : ∀ {es : List (PV × PV)} {ents : List MapEntry}, MapRel es ents → ∀ {i : Nat} {p : PV × PV}, es[i]? = some p → ∃ e, ents[i]? = some e ∧ valOf p.1 = some e.key ∧ valOf p.2 = some e.val
  | (k, v) :: r, e :: r', h, 0, p, hp => by
    simp at hp; subst hp
    exact ⟨e, rfl, h.1, h.2.1⟩
  | (k, v) :: r, e :: r', h, i + 1, p, hp => by
    obtain ⟨e', h1, h2⟩ := MapRel.get h.2.2 (i := i) (p := p) (by simpa using hp)
    exact ⟨e', by simpa using h1, h2⟩
  | [], [], h, i, p, hp => by simp at hp
  | [], _ :: _, h, _, _, _ => by simp [MapRel] at h
  | _ :: _, [], h, _, _, _ => by simp [MapRel] at h

/-- The model's own search. -/
theorem find_int {q : IntKind} {k : PV} {u : Value} (hu : VR im loc k u) (hk : keyOk none k = true) : ∀ {es : List (PV × PV)} {ents : List MapEntry} {i : Nat} {r : Option Nat}, MapRel es ents → findIdx none k es i = some r →
    ∃ r', Instr.findNow (.int q) u ents i = some r' ∧ match r with | none => r' = none | some j => i ≤ j ∧ ∃ p e, es[j - i]? = some p ∧ ents[j - i]? = some e ∧ r' = some (j, e.val) ∧ keyOk none p.1 = true ∧ eqCells k.cells p.1.cells = some true
  | [], [], i, r, _, h => by
    simp only [findIdx, Option.some.injEq] at h; subst h
    exact ⟨none, rfl, rfl⟩
  | (a, v) :: es, e :: ents, i, r, hm, h => by
    simp only [findIdx] at h
    split at h
    case isFalse => cases h
    rename_i hka
    obtain ⟨h1, h2, h3⟩ := hm
    obtain ⟨_, kk, kn, rfl, rfl⟩ : _ ∧ ∃ kk kn, k = .int kk kn ∧ u = .int kk kn := by
      rcases keyOk_cells hk hu with ⟨_, kk, kn, e1, e2⟩ | ⟨_, _, _, e1, _⟩
      · exact ⟨trivial, kk, kn, e1, e2⟩
      · cases e1
    obtain ⟨ak, an, rfl, hae⟩ : ∃ ak an, a = .int ak an ∧ e.key = .int ak an := by
      rcases keyOk_cells (im := im) (loc := loc) hka (VR.of_valOf h1) with ⟨_, kk, kn, e1, e2⟩ | ⟨_, _, _, e1, _⟩
      · exact ⟨kk, kn, e1, e2⟩
      · cases e1
    simp only [PV.cells, eqCells, eqCell] at h
    cases hkk : kindEq kk ak with
    | false => rw [hkk] at h; simp at h
    | true =>
      have := kindEq_iff.1 hkk; subst this
      rw [hkk] at h
      simp only [if_true] at h
      simp only [Instr.findNow, hae, Instr.sameNow, if_true]
      cases hb : (kn == an) with
      | true =>
        rw [hb] at h
        simp only [Option.some.injEq] at h; subst h
        refine ⟨_, rfl, Nat.le_refl _, (.int kk an, v), e, by simp, by simp, rfl, hka, ?_⟩
        simp [PV.cells, eqCells, eqCell, hkk, hb]
      | false =>
        rw [hb] at h
        simp only at h
        obtain ⟨r', g1, g2⟩ := find_int (q := q) (k := .int kk kn) (.int kk kn) hk h3 h
        refine ⟨r', g1, ?_⟩
        cases r with
        | none => exact g2
        | some j =>
          obtain ⟨q1, p, e', q2, q3, q4, q5, q6⟩ := g2
          refine ⟨by omega, p, e', ?_, ?_, q4, q5, q6⟩
          · rw [show j - i = (j - (i + 1)) + 1 by omega]; simpa using q2
          · rw [show j - i = (j - (i + 1)) + 1 by omega]; simpa using q3
  | [], _ :: _, i, r, hm, h => by simp [MapRel] at hm
  | _ :: _, [], i, r, hm, h => by simp [MapRel] at hm

theorem find_agg {n : Nat} {kt : TypeId} (hrow : isRowT P kt = true) (hfl : flat P 100 kt = some n) {k : PV} {u : Value} (hu : VR im loc k u) (hk : keyOk (some n) k = true) : ∀ {es : List (PV × PV)} {ents : List MapEntry} {i : Nat} {r : Option Nat}, MapRel es ents → findIdx (some n) k es i = some r →
    ∃ r', (Instr.findAsking kt u ents i).run P w = .ok r' w ∧ match r with | none => r' = none | some j => i ≤ j ∧ ∃ p e, es[j - i]? = some p ∧ ents[j - i]? = some e ∧ r' = some (j, e.val) ∧ keyOk (some n) p.1 = true ∧ eqCells k.cells p.1.cells = some true
  | [], [], i, r, _, h => by
    simp only [findIdx, Option.some.injEq] at h; subst h
    exact ⟨none, rfl, rfl⟩
  | (a, v) :: es, e :: ents, i, r, hm, h => by
    simp only [findIdx] at h
    split at h
    case isFalse => cases h
    rename_i hka
    obtain ⟨h1, h2, h3⟩ := hm
    have hva : VR im loc a e.key := VR.of_valOf h1
    have heq : ∀ b, eqCells k.cells a.cells = some b → (Op.equal kt u e.key).run P w = .ok b w := by
      intro b hb
      rcases keyOk_cells hk hu with ⟨h', _⟩ | ⟨m, cs, us, h', rfl, hl, rfl, hr⟩
      · cases h'
      · injection h' with h'; subst h'
        rcases keyOk_cells hka hva with ⟨h', _⟩ | ⟨m, ds, vs, h', rfl, hl', he, hs⟩
        · cases h'
        · injection h' with h'; subst h'
          rw [he]
          have := flat_eq (P := P) (w := w) 100 kt n hfl Op.maxDepth (by decide) cs ds us vs b hr hs hl hl' hb
          simp only [whole, hrow, if_true] at this
          exact this
    cases hb : eqCells k.cells a.cells with
    | none => rw [hb] at h; cases h
    | some b =>
      rw [hb] at h
      have hrun := heq b hb
      cases b with
      | true =>
        simp only [Option.some.injEq] at h; subst h
        refine ⟨some (i, e.val), by simp [Instr.findAsking, hrun], Nat.le_refl _, (a, v), e, by simp, by simp, rfl, hka, hb⟩
      | false =>
        simp only at h
        obtain ⟨r', g1, g2⟩ := find_agg hrow hfl hu hk h3 h
        refine ⟨r', by simp [Instr.findAsking, hrun, g1], ?_⟩
        cases r with
        | none => exact g2
        | some j =>
          obtain ⟨q1, p, e', q2, q3, q4, q5, q6⟩ := g2
          refine ⟨by omega, p, e', ?_, ?_, q4, q5, q6⟩
          · rw [show j - i = (j - (i + 1)) + 1 by omega]; simpa using q2
          · rw [show j - i = (j - (i + 1)) + 1 by omega]; simpa using q3
  | [], _ :: _, i, r, hm, h => by simp [MapRel] at hm
  | _ :: _, [], i, r, hm, h => by simp [MapRel] at hm

theorem flat_check : ∀ (d : Nat) (t : TypeId) (n : Nat), flat P d t = some n → ∀ (D : Nat), d ≤ D → ∀ (em : Bool) (xs : List PV) (us : List Value), VRL im loc xs us → us.length = n →
    (Instr.checkKey em D t (whole P t us)).run P w = .ok () w
  | 0, t, n, h, _, _, _, _, _, _, _ => by cases h
  | d + 1, t, n, h, 0, hD, _, _, _, _, _ => by omega
  | d + 1, t, n, h, D + 1, hD, em, xs, us, hx, hun => by
    simp only [flat] at h
    split at h
    · rename_i k hu
      have hr : isRowT P t = false := by unfold isRowT; rw [hu]
      split at h
      · injection h with h; subst h
        match us, xs, hx, hun with
        | [u], [x], .cons _ _ _ _ h1 _, _ =>
          simp only [whole, hr, Bool.false_eq_true, if_false, List.getD, List.getElem?_cons_zero, Option.getD_some, Instr.checkKey, Sem.run_bind, run_underlying hu, Result.andThen_ok]
          cases u <;> simp
      · cases h
    · rename_i fs hu
      have hr : isRowT P t = true := by unfold isRowT; rw [hu]
      split at h
      · cases h
      · change (match fs.toList.foldl (flatStep P d) (some 0) with | some n => if szIs P t n then some n else none | none => none) = some n at h
        cases hfo : fs.toList.foldl (flatStep P d) (some 0) with
        | none => rw [hfo] at h; cases h
        | some n' =>
          rw [hfo] at h
          dsimp only at h
          split at h
          · injection h with h; subst h
            simp only [whole, hr, if_true, Instr.checkKey, Sem.run_bind, run_underlying hu, Result.andThen_ok]
            rw [← Array.forIn_toList]
            have hk : ∃ k, fs.toList.foldl (flatStep P d) (some k) = some n' := ⟨0, hfo⟩
            clear hfo
            obtain ⟨k, hk⟩ := hk
            generalize fs.toList = L at hk
            induction L generalizing k with
            | nil => simp
            | cons f l ih =>
              rw [List.foldl_cons] at hk
              cases hs : flatStep P d (some k) f with
              | none => rw [hs, flatStep_none] at hk; cases hk
              | some k' =>
                rw [hs] at hk
                have hge := foldl_ge hk
                unfold flatStep at hs
                dsimp only at hs
                split at hs
                · rename_i hc
                  simp only [Bool.and_eq_true, beq_iff_eq, bne_iff_ne, ne_eq] at hc
                  split at hs
                  · rename_i m hm
                    split at hs
                    · rename_i hsz
                      injection hs with hs; subst hs
                      have p1 := part_whole (w := w) (us := us) hm hsz (k := k) (by omega) (flat_some hm)
                      have p2 := flat_check d f.type m hm D (by omega) em ((xs.drop k).take m) ((us.drop k).take m) ((hx.drop k).take m) (by simp; omega)
                      simp only [List.forIn_cons, Sem.run_bind, hc.2, ne_eq, not_false_eq_true, if_true, hc.1, p1, p2, Result.andThen_ok, Sem.run_pure]
                      exact ih _ hk
                    · cases hs
                  · cases hs
                · cases hs
          · cases h
    · cases h


theorem check_int {kt : TypeId} {q : IntKind} (hq : P.underlying kt = some (.int q)) (em : Bool) (n : Nat) (k : IntKind) (m : Int) : (Instr.checkKey em (n + 1) kt (.int k m)).run P w = .ok () w := by
  simp [Instr.checkKey, run_underlying hq]

theorem run_getMap {r : Nat} {es : Array MapEntry} {clock : Nat} (hb : w.heap[r]? = some (.map es clock)) : (getObj r).run P w = .ok (.map es clock) w := by
  simp [getObj, Sem.run, hb]

theorem run_setMap {r : Nat} {es : Array MapEntry} {clock : Nat} (o : Obj) (hb : w.heap[r]? = some (.map es clock)) : (setObj r o).run P w = .ok () { w with heap := w.heap.setIfInBounds r o } := by
  simp [setObj, Sem.run, hb]

theorem run_findNow {kt : TypeId} {d : TypeDesc} {k : Value} {l : List MapEntry} {a : Option (Nat × Value)} (hd : P.underlying kt = some d) (h : Instr.findNow d k l 0 = some a) : (Instr.findKey kt k l).run P w = .ok a w := by
  simp [Instr.findKey, run_underlying hd, h]

theorem keyIs_check {kt : TypeId} {n : Option Nat} (h : keyIs P kt n = true) {k : PV} {u : Value} (hu : VR im loc k u) (hk : keyOk n k = true) (em : Bool) : (Instr.checkKey em 10000 kt u).run P w = .ok () w := by
  rcases keyOk_cells hk hu with ⟨rfl, kk, m, rfl, rfl⟩ | ⟨m, cs, us, rfl, rfl, hl, rfl, hr⟩
  · simp only [keyIs] at h
    split at h
    · rename_i q hq
      exact check_int hq em 9999 kk m
    · cases h
  · simp only [keyIs, Bool.and_eq_true, beq_iff_eq] at h
    have := flat_check (P := P) (w := w) 100 kt m h.2 10000 (by decide) em cs us hr (by rw [← hr.length]; exact hl)
    simp only [whole, h.1, if_true] at this
    exact this

theorem keyIs_find {kt : TypeId} {n : Option Nat} (h : keyIs P kt n = true) {k : PV} {u : Value} (hu : VR im loc k u) (hk : keyOk n k = true) {es : List (PV × PV)} {ents : List MapEntry} {r : Option Nat} (hm : MapRel es ents) (hf : findIdx n k es 0 = some r) :
    ∃ r', (Instr.findKey kt u ents).run P w = .ok r' w ∧ match r with | none => r' = none | some j => ∃ p e, es[j]? = some p ∧ ents[j]? = some e ∧ r' = some (j, e.val) ∧ keyOk n p.1 = true ∧ eqCells k.cells p.1.cells = some true := by
  cases n with
  | none =>
    simp only [keyIs] at h
    split at h
    · rename_i q hq
      obtain ⟨r', h1, h2⟩ := find_int (q := q) hu hk hm hf
      refine ⟨r', run_findNow hq h1, ?_⟩
      cases r with
      | none => exact h2
      | some j => exact h2.2
    · cases h
  | some m =>
    simp only [keyIs, Bool.and_eq_true, beq_iff_eq] at h
    obtain ⟨r', h1, h2⟩ := find_agg (P := P) (w := w) h.1 h.2 hu hk hm hf
    refine ⟨r', ?_, ?_⟩
    · rw [run_findKey_eq w ?_ u ents]
      · exact h1
      · have := h.1
        unfold isRowT at this
        revert this
        cases P.underlying kt with
        | none => exact id
        | some d => cases d <;> exact id
    · cases r with
      | none => exact h2
      | some j => exact h2.2

theorem VR.mp_inv {t : Nat} {v : Value} (h : VR im loc (.mp t) v) : ∃ li, loc t = some li ∧ v = .map (some li.blk) := by
  cases h with | mp _ li h => exact ⟨li, h, rfl⟩

theorem sim_lookup {t kt et : TypeId} {n : Option Nat} {zero m k : PV} {ok : Bool} {um uk : Value} {r : Res} (ht : P.underlying t = some (.map kt et)) (hkt : keyIs P kt n = true)
    (hz : ∃ i z, P.info? et = some i ∧ i.zero = some z ∧ VR im loc zero z) (hm : VR im loc m um) (hk : VR im loc k uk)
    (h : lookupE sto n zero ok m k = some r) (hkn : Known im loc sto w r) :
    ∃ v, (Instr.lookup t um uk ok).run P w = .ok v w ∧ VR im loc r.v v ∧ r.news = [] ∧ r.wr = [] := by
  unfold lookupE at h
  cases m with
  | mp tk =>
    dsimp only at h
    obtain ⟨li, hl, rfl⟩ := hm.mp_inv
    cases hs : sto[tk]? with
    | none => rw [hs] at h; cases h
    | some b =>
      rw [hs] at h
      cases b with
      | map es =>
        dsimp only at h
        split at h
        case isFalse => cases h
        rename_i hko
        cases hf : findIdx n k es 0 with
        | none => rw [hf] at h; cases h
        | some q =>
          rw [hf] at h
          have hrd : tk ∈ r.rd := by
            revert h
            cases q with
            | none => intro h; simp only [Option.some.injEq] at h; subst h; simp
            | some j =>
              dsimp only
              cases es[j]? with
              | none => intro h; cases h
              | some p => intro h; simp only [Option.some.injEq] at h; subst h; simp
          obtain ⟨b', hb1, hbr⟩ := hkn.tok tk (.inl hrd) li hl
          rw [hs] at hb1; injection hb1 with hb1; subst hb1
          obtain ⟨ents, clock, hw, hrel⟩ := hbr
          obtain ⟨r', hfr, hfm⟩ := keyIs_find (P := P) (w := w) hkt hk hko hrel hf
          have hck := keyIs_check (P := P) (w := w) hkt hk hko (ents.isEmpty)
          obtain ⟨i, z, hi, hiz, hvz⟩ := hz
          have hzr : (zeroValue et).run P w = .ok z w := by simp [zeroValue, typeInfo, hi, hiz]
          cases q with
          | none =>
            dsimp only at h hfm
            subst hfm
            injection h with h; subst h
            refine ⟨if ok then .tuple #[z, .bool false] else z, ?_, ?_, rfl, rfl⟩
            · simp only [Instr.lookup, Sem.run_bind, run_underlying ht, Result.andThen_ok, run_getMap hw, Sem.run_pure, hck, hfr, hzr]
            · cases ok with
              | true => exact .tup _ _ (.cons _ _ _ _ hvz (.cons _ _ _ _ (.bool false) .nil))
              | false => exact hvz
          | some j =>
            dsimp only at h hfm
            obtain ⟨p, e, h1, h2, rfl, h4, h5⟩ := hfm
            rw [h1] at h
            simp only [Option.some.injEq] at h
            subst h
            obtain ⟨e', he', hv1, hv2⟩ := MapRel.get hrel h1
            rw [h2] at he'; injection he' with he'; subst he'
            refine ⟨if ok then .tuple #[e.val, .bool true] else e.val, ?_, ?_, rfl, rfl⟩
            · simp only [Instr.lookup, Sem.run_bind, run_underlying ht, Result.andThen_ok, run_getMap hw, Sem.run_pure, hck, hfr]
            · cases ok with
              | true => exact .tup _ _ (.cons _ _ _ _ (.of_valOf hv2) (.cons _ _ _ _ (.bool true) .nil))
              | false => exact .of_valOf hv2
      | _ => cases h
  | _ => cases h

theorem MapRel.snoc : ∀ {es : List (PV × PV)} {ents : List MapEntry} {p : PV × PV} {e : MapEntry}, MapRel es ents → valOf p.1 = some e.key → valOf p.2 = some e.val → MapRel (es ++ [p]) (ents ++ [e])
  | [], [], p, e, _, h1, h2 => ⟨h1, h2, trivial⟩
  | (k, v) :: r, e :: r', p, e', h, h1, h2 => ⟨h.1, h.2.1, MapRel.snoc h.2.2 h1 h2⟩
  | [], _ :: _, _, _, h, _, _ => by simp [MapRel] at h
  | _ :: _, [], _, _, h, _, _ => by simp [MapRel] at h

theorem MapRel.set : ∀ {es : List (PV × PV)} {ents : List MapEntry} {i : Nat} {p : PV × PV} {f : MapEntry → MapEntry}, MapRel es ents → (∀ e, valOf p.1 = some (f e).key ∧ valOf p.2 = some (f e).val) → MapRel (es.set i p) (ents.modify i f)
  | [], [], i, p, f, h, _ => by simp [MapRel]
  | (k, v) :: r, e :: r', 0, p, f, h, h1 => ⟨(h1 e).1, (h1 e).2, h.2.2⟩
  | (k, v) :: r, e :: r', i + 1, p, f, h, h1 => by
    simp only [List.set_cons_succ, List.modify_succ_cons]
    exact ⟨h.1, h.2.1, MapRel.set h.2.2 h1⟩
  | [], _ :: _, _, _, _, h, _ => by simp [MapRel] at h
  | _ :: _, [], _, _, _, h, _ => by simp [MapRel] at h

theorem sim_mapu {t kt et : TypeId} {n : Option Nat} {m k x : PV} {um uk ux : Value} {r : Res} (ht : P.underlying t = some (.map kt et)) (hkt : keyIs P kt n = true)
    (hm : VR im loc m um) (hk : VR im loc k uk) (hx : VR im loc x ux)
    (h : mapuE sto fz n m k x = some r) (hkn : Known im loc sto w r) :
    ∃ w', (Instr.mapUpdate t um uk ux).run P w = .ok () w' ∧ Eff im loc sto w r im loc w' ∧ r.v = .undef := by
  unfold mapuE at h
  cases m with
  | mp tk =>
    dsimp only at h
    obtain ⟨li, hl, rfl⟩ := hm.mp_inv
    cases hs : sto[tk]? with
    | none => rw [hs] at h; cases h
    | some b =>
      rw [hs] at h
      cases b with
      | map es =>
        dsimp only at h
        split at h
        case isFalse => cases h
        rename_i hko
        simp only [Bool.and_eq_true, Bool.not_eq_true'] at hko
        obtain ⟨hko, hnf⟩ := hko
        cases hkp : k.storedPlain with
        | none => rw [hkp] at h; cases h
        | some kc =>
          cases hxp : x.storedPlain with
          | none => rw [hkp, hxp] at h; cases h
          | some xc =>
            rw [hkp, hxp] at h
            dsimp only at h
            obtain ⟨_, hkpl⟩ := storedPlain_inv hkp
            obtain ⟨_, hxpl⟩ := storedPlain_inv hxp
            have vk := valOf_of hk hkpl
            have vx := valOf_of hx hxpl
            cases hf : findIdx n k es 0 with
            | none => rw [hf] at h; cases h
            | some q =>
              rw [hf] at h
              have hwr : ∃ bb, r = { v := .undef, wr := [(tk, bb)] } := by
                revert h
                cases q with
                | none => intro h; simp only [Option.some.injEq] at h; exact ⟨_, h.symm⟩
                | some j => intro h; simp only [Option.some.injEq] at h; exact ⟨_, h.symm⟩
              obtain ⟨bb, hr⟩ := hwr
              obtain ⟨b', hb1, hbr⟩ := hkn.tok tk (.inr ⟨bb, by rw [hr]; simp⟩) li hl
              rw [hs] at hb1; injection hb1 with hb1; subst hb1
              obtain ⟨ents, clock, hw, hrel⟩ := hbr
              obtain ⟨r', hfr, hfm⟩ := keyIs_find (P := P) (w := w) hkt hk hko hrel hf
              have hck := keyIs_check (P := P) (w := w) hkt hk hko false
              have hlt := (Array.getElem?_eq_some_iff.1 hw).1
              cases q with
              | none =>
                dsimp only at h hfm
                subst hfm
                injection h with h
                refine ⟨{ w with heap := w.heap.setIfInBounds li.blk (.map (ents.push { key := uk, val := ux, born := clock }) (clock + 1)) }, ?_, Eff.write hkn (t := tk) (k0 := .map es) (o := .map (ents.push { key := uk, val := ux, born := clock }) (clock + 1)) (li := li) (by rw [← h]) (by rw [← h]) hl hs rfl rfl rfl rfl rfl ?_, by rw [← h]⟩
                · simp only [Instr.mapUpdate, Sem.run_bind, run_underlying ht, Result.andThen_ok, run_getMap hw, hck, hfr]
                  exact run_setMap _ hw
                · refine ⟨ents.push { key := uk, val := ux, born := clock }, clock + 1, by simp [hlt], ?_⟩
                  rw [Array.toList_push]
                  exact hrel.snoc vk vx
              | some j =>
                dsimp only at h hfm
                obtain ⟨p, e, h1, h2, rfl, h4, h5⟩ := hfm
                injection h with h
                obtain ⟨e', he', hv1, hv2⟩ := MapRel.get hrel h1
                rw [h2] at he'; injection he' with he'; subst he'
                obtain ⟨hsame, hbits⟩ := key_same (im := im) (loc := loc) hko h4 h5 hk (.of_valOf hv1)
                have hgetj : ((ents[j]?).map (·.key)).getD uk = uk := by
                  have : ents[j]? = some e := by simpa using h2
                  rw [this]; exact hsame.symm
                refine ⟨{ w with heap := w.heap.setIfInBounds li.blk (.map (ents.modify j fun e => { e with key := uk, val := ux }) clock) }, ?_, Eff.write hkn (t := tk) (k0 := .map es) (o := .map (ents.modify j fun e => { e with key := uk, val := ux }) clock) (li := li) (by rw [← h]) (by rw [← h]) hl hs rfl rfl rfl rfl rfl ?_, by rw [← h]⟩
                · simp only [Instr.mapUpdate, Sem.run_bind, run_underlying ht, Result.andThen_ok, run_getMap hw, hck, hfr, hgetj, Instr.keyThatStays, hbits, if_true, Sem.run_pure]
                  exact run_setMap _ hw
                · refine ⟨ents.modify j fun e => { e with key := uk, val := ux }, clock, by simp [hlt], ?_⟩
                  rw [Array.toList_modify]
                  exact hrel.set fun e => ⟨vk, vx⟩
      | _ => cases h
  | _ => cases h

/-! ### copy, clear -/

/-- The first rows of a slice, as copy reads them. -/
theorem first_rows {esz : Nat} {y : PV} {u : Value} {new : List Row} (hy : VR im loc y u) (hr : rowsOf sto esz y = some new) (n : Nat) (hn : n ≤ new.length)
    (im_ok : ∀ b o, im b = some o → w.heap[b]? = some o) (tok : ∀ t, t ∈ tokOf y → ∀ li, loc t = some li → ∃ k, sto[t]? = some k ∧ BR im loc w li k) :
    (Builtin.lenOf u).run P w = .ok new.length w ∧ (Builtin.firstCells esz n u).run P w = .ok ((new.take n).flatMap rowVals).toArray w ∧ (∀ r ∈ new, r.length = esz) ∧ (∀ r ∈ new, ∀ c ∈ r, c.plain = true) := by
  have load0 : ∀ (a : Option Addr) (l c : Nat), (Builtin.firstCells esz 0 (.slice a l c)).run P w = .ok #[] w := by
    intro a l c
    cases a with
    | none => simp [Builtin.firstCells]
    | some a =>
      have := run_loadCells_list (P := P) w a [] (by simp)
      simpa [Builtin.firstCells] using this
  have get : ∀ (rows : List Row) (b o l c : Nat) (g : Nat → Option Value), RowsAt g o esz rows → (∀ k v, g k = some v → w.cell? ⟨b, k, none⟩ = some v) → n ≤ rows.length →
      (Builtin.firstCells esz n (.slice (some ⟨b, o, none⟩) l c)).run P w = .ok ((rows.take n).flatMap rowVals).toArray w := by
    intro rows b o l c g hat hg hnl
    have h1 := hat.take n
    have hfl := flat_length h1.rowLen
    have := run_loadCells_list (P := P) w ⟨b, o, none⟩ ((rows.take n).flatMap rowVals) (fun j v hj => by rw [add_at]; exact hg _ _ (h1.flat j v hj))
    simp only [Builtin.firstCells]
    rw [show n * esz = ((rows.take n).flatMap rowVals).length by rw [hfl, List.length_take, Nat.min_eq_left hnl]]
    exact this
  unfold rowsOf at hr
  cases y with
  | sl e clip rows =>
    obtain ⟨a, cap, rfl, _, _, hrows⟩ := hy.sl_inv
    cases rows with
    | nil =>
      simp at hr; subst hr
      have : n = 0 := by simpa using hn
      subst this
      exact ⟨rfl, by simpa using load0 a 0 cap, by simp, by simp⟩
    | cons r rs =>
      dsimp only at hr
      split at hr
      · rename_i he
        have he : e = esz := by simpa using he
        subst he
        injection hr with hr; subst hr
        obtain ⟨b, o, rfl, hat⟩ := hrows (by simp)
        exact ⟨rfl, get (r :: rs) b o _ cap _ hat (fun k v hk => imCell_cell im_ok hk) hn, hat.rowLen, hat.plain⟩
      · cases hr
  | own t e off len cap ex =>
    dsimp only at hr
    split at hr
    · rename_i he
      have he : e = esz := by simpa using he
      subst he
      obtain ⟨li, a, cap', rfl, hl, h2, h3, h4, h5, h6, h7⟩ := hy.own_inv
      obtain ⟨k, hk1, hb⟩ := tok t (by simp [tokOf]) li hl
      rw [hk1] at hr
      cases k with
      | arr e' rows =>
        simp only [Option.some.injEq] at hr
        subst hr
        obtain ⟨b1, b2, b3⟩ := hb
        have hlen : ((rows.drop off).take len).length = len := by simp; omega
        have hee : e' = e := by rw [← b1, h2]
        subst hee
        rw [hlen] at hn ⊢
        cases rows with
        | nil =>
          have : len = 0 := by simp at b2; omega
          subst this
          have : n = 0 := by omega
          subst this
          exact ⟨rfl, by simpa using load0 a 0 cap', by simp, by simp⟩
        | cons r rs =>
          obtain ⟨arr, el, ha1, ha2, ha3, hat⟩ := b3 (by simp)
          have hsub := (hat.drop off).take len
          refine ⟨rfl, ?_, hsub.rowLen, hsub.plain⟩
          rcases Nat.eq_zero_or_pos n with h0 | h0
          · subst h0; simpa using load0 a len cap'
          · rcases h7 with h7 | ⟨h7, rfl, h9⟩
            · omega
            · exact get _ li.blk (li.sh + off * e') len cap' _ hsub (fun k v hk => cell_of_block ha1 hk) (by rw [hlen]; exact hn)
      | _ => cases hr
    · cases hr
  | _ => cases hr

/-- Rows are laid over those of a block of the call's own. -/
theorem sim_rows {esz : Nat} {t off len cap : Nat} {ex : Bool} {u : Value} {rows new : List Row} {r : Res} {d : List Nat} {v : PV} (hx : VR im loc (.own t esz off len cap ex) u) (hs : sto[t]? = some (.arr esz rows)) (hn : new ≠ []) (hl : new.length ≤ len)
    (hrl : ∀ r ∈ new, r.length = esz) (hrp : ∀ r ∈ new, ∀ c ∈ r, c.plain = true) (hr : r = { v := v, wr := [(t, .arr esz (setRows off new rows))], rd := d }) (hk : Known im loc sto w r) :
    ∃ b o c w', u = .slice (some ⟨b, o, none⟩) len c ∧ (storeCells ⟨b, o, none⟩ (new.flatMap rowVals)).run P w = .ok () w' ∧ Eff im loc sto w r im loc w' := by
  obtain ⟨li, a, cap', rfl, hl', he, hoff, hcap, hex, hxk, hadr⟩ := hx.own_inv
  obtain ⟨k, hk1, hb⟩ := hk.tok t (.inr ⟨_, by rw [hr]; simp; rfl⟩) li hl'
  rw [hs] at hk1; injection hk1 with hk1; subst hk1
  obtain ⟨b1, b2, b3⟩ := hb
  have hnl : 0 < new.length := List.length_pos_iff.2 hn
  have hrne : rows ≠ [] := by intro e; subst e; simp at b2; omega
  obtain ⟨arr, el, ha1, ha2, ha3, hat⟩ := b3 hrne
  rcases hadr with h0 | ⟨_, rfl, hfit⟩
  · omega
  · have hnfl := flat_length hrl
    have hmul := Nat.mul_le_mul_right esz (show off + new.length ≤ rows.length by omega)
    rw [Nat.add_mul] at hmul
    have hle1 : li.sh + off * esz + (new.flatMap rowVals).length ≤ arr.size := by rw [hnfl]; omega
    have hrun := run_storeCells_at P li.blk (li.sh + off * esz) el (new.flatMap rowVals) 0 arr w ha1 (by simpa using hle1) (flat_one hrp)
    refine ⟨li.blk, li.sh + off * esz, cap', _, rfl, hrun, ?_⟩
    refine Eff.write hk (t := t) (k0 := .arr esz rows) (li := li) (by rw [hr]) (by rw [hr]) hl' hs (by cases rows with | nil => exact absurd rfl hrne | cons _ _ => rfl) (setRow_heap_eq ha1) rfl rfl rfl ?_
    rw [setRows_spl _ _ _ (by omega)]
    refine ⟨b1, by rw [spl_length _ _ _ (by omega)]; exact b2, fun _ => ⟨(arr.toList.take (li.sh + off * esz + 0) ++ new.flatMap rowVals ++ arr.toList.drop (li.sh + off * esz + 0 + (new.flatMap rowVals).length)).toArray, el, ?_, ?_, ?_, ?_⟩⟩
    · rw [setRow_heap_eq ha1]
      have hlt := (Array.getElem?_eq_some_iff.1 ha1).1
      simp [hlt]
    · rw [← ha2]
      have := spl_length (li.sh + off * esz) (new.flatMap rowVals) arr.toList (by simpa using hle1)
      simp only [spl] at this
      simpa using this
    · rw [spl_length _ _ _ (by omega)]; exact ha3
    · refine hat.spl (by omega) hrl hrp (fun k => ?_)
      have := spl_get (li.sh + off * esz) (new.flatMap rowVals) arr.toList (by simpa using hle1) k
      simp only [spl] at this
      simp only [List.getElem?_toArray, Nat.add_zero]
      rw [this, hnfl]
      simp

end
end Go.Vm
