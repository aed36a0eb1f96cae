/- Definitions of a logical machine over pure values: what it computes is tied to the model's runs in VmSound. -/
import GoSem.Dispatch
namespace Go.Vm

/-- A pure value. 'undef': nothing is known. 'nul': what a skipped operation leaves. 'sl': a slice that nobody writes to, as its rows. 'own': a slice into a block of the call's own. -/
inductive PV where
  | undef
  | nul
  | int (k : IntKind) (n : Int)
  | bool (b : Bool)
  | str (s : ByteArray)
  | agg (cs : List PV)
  | tup (cs : List PV)
  | sl (esz : Nat) (clip : Bool) (rows : List (List PV))
  | own (t esz off len cap : Nat) (ex : Bool)
  | ptr (t esz row off : Nat)
  | rptr (cells : List PV) (off : Nat)
  | mp (t : Nat)
  | clo (fn : FuncId) (fst cap : List PV)
  | nilf

instance : Inhabited PV := ⟨.undef⟩

abbrev Row := List PV

/-- A block of the call's own. -/
inductive Blk where
  | arr (esz : Nat) (rows : List Row)
  | box (cells : List PV)
  | map (es : List (PV × PV))
  | dead

abbrev Sto := List Blk
abbrev Env := List (Nat × PV)

inductive Opd where
  | t (n : Nat)
  | c (v : PV)

inductive CM where
  | pur | own | shr

inductive XOp where
  | mov (x : Opd)
  | pick (c a b : Opd)
  | bin (op : BinOp) (x y : Opd)
  | binb (neg : Bool) (x y : Opd)
  | eqc (n : Nat) (neg : Bool) (x y : Opd)
  | un (op : UnOp) (x : Opd)
  | conv (k : IntKind) (x : Opd)
  | len (x : Opd)
  | lenc (n : Nat)
  | box (x : Opd)
  | alloc (cells : List PV)
  | build (zero : List PV) (parts : List (Nat × Nat × Opd))
  | mkrow (esz n : Nat) (zero : Row) (parts : List (Nat × Opd))
  | load (agg : Option Nat) (p : Opd)
  | store (sz : Nat) (p v : Opd)
  | nilc (x : Opd)
  | fadr (off : Nat) (p : Opd)
  | fld (agg : Option Nat) (off : Nat) (x : Opd)
  | iadr (esz : Nat) (x i : Opd)
  | iadra (n esz : Nat) (p i : Opd)
  | idx (n esz : Nat) (agg : Option Nat) (x i : Opd)
  | sidx (x i : Opd)
  | slc (esz : Nat) (x : Opd) (lo hi mx : Option Opd)
  | mks (esz : Nat) (zero : Row) (len cap : Opd)
  | mkf (fn : FuncId) (fst cap : List Opd)
  | mkm
  | lookup (zero : PV) (ok : Bool) (m k : Opd)
  | mapu (m k v : Opd)
  | ext (i : Nat) (x : Opd)
  | append (esz : Nat) (x y : Opd)
  | copy (esz : Nat) (x y : Opd)
  | clear (esz : Nat) (zero : Row) (x : Opd)
  | mm (isMax : Bool) (x : Opd) (xs : List Opd)
  | call (m : CM) (f : FuncId) (args : List Opd)
  | callv (x : Opd) (args : List Opd)
  | bad

structure XOper where
  dst : Option Nat
  op : XOp
  guard : Option (Nat × Bool)

inductive XCode where
  | skip
  | region (draw : Option (List Nat)) (ops : List XOper) (keep : List Nat)
  | seq (a b : XCode)
  | cond (c : Opd) (a b : XCode)
  | block (id : Nat) (b : XCode)
  | loop (live : List (Nat × Option Nat)) (b : XCode)
  | exit (id : Nat)
  | ret

inductive RV where
  | tmp (t : Nat)
  | cell (t : Nat) (agg : Option Nat)

structure XFunc where
  nargs : Nat
  code : XCode
  res : List RV

/-- A function of the table: its code, or what it is known to do with pure arguments (its results' slices are new; 'kills': it may write into its first argument's block, which nobody may use behind it). -/
inductive Ent where
  | code (x : XFunc)
  | prim (kills : Bool) (f : List PV → Option (PV × Sto))

abbrev Tab := FuncId → Option Ent

/-- 'kn': so many blocks were there when the function began: those keep their numbers. -/
structure St where
  env : Env
  sto : Sto
  fz : List Nat
  kn : Nat

inductive XExit where
  | normal
  | exit (id : Nat)
  | ret

/-! ### small parts -/

def lk (t : Nat) : Env → PV
  | [] => .undef
  | (s, v) :: r => if Nat.beq s t then v else lk t r

def Opd.ev (e : Env) : Opd → PV
  | .t n => lk n e
  | .c v => v

def PV.isOne : PV → Bool
  | .undef | .nul | .agg _ | .tup _ => false
  | _ => true

def PV.plain : PV → Bool
  | .int _ _ | .bool _ | .str _ => true
  | _ => false

def PV.cells : PV → List PV
  | .agg cs => cs
  | v => [v]

/-- The cells of a value that may lie in memory. -/
def PV.stored (v : PV) : Option (List PV) := if v.cells.all PV.isOne then some v.cells else none
def PV.storedPlain (v : PV) : Option (List PV) := if v.cells.all PV.plain then some v.cells else none

def part (agg : Option Nat) (off : Nat) (cs : List PV) : Option PV :=
  match agg with
  | some s => if off + s ≤ cs.length then some (.agg ((cs.drop off).take s)) else none
  | none => cs[off]?

def splice (off : Nat) (new old : List PV) : List PV := old.take off ++ new ++ old.drop (off + new.length)

def wrapF (k : IntKind) (n : Int) : Int :=
  match k, n with
  | .i64, .ofNat m => if Nat.blt m 9223372036854775808 then .ofNat m else IntKind.wrap .i64 n
  | .i64, .negSucc m => if Nat.blt m 9223372036854775808 then .negSucc m else IntKind.wrap .i64 n
  | .u64, .ofNat m => .ofNat (Nat.mod m 18446744073709551616)
  | k, n => IntKind.wrap k n

def arith (op : BinOp) (k : IntKind) (a b : Int) : Option PV :=
  match op with
  | .add => some (.int k (wrapF k (a + b)))
  | .sub => some (.int k (wrapF k (a - b)))
  | .mul => some (.int k (wrapF k (a * b)))
  | .quo => if b = 0 then none else some (.int k (wrapF k (a.tdiv b)))
  | .rem => if b = 0 then none else some (.int k (a.tmod b))
  | .and => some (.int k (k.wrap (BitVec.ofInt k.bits a &&& BitVec.ofInt k.bits b).toNat))
  | .or => some (.int k (k.wrap (BitVec.ofInt k.bits a ||| BitVec.ofInt k.bits b).toNat))
  | .xor => some (.int k (k.wrap (BitVec.ofInt k.bits a ^^^ BitVec.ofInt k.bits b).toNat))
  | .andNot => some (.int k (k.wrap (BitVec.ofInt k.bits a &&& ~~~ BitVec.ofInt k.bits b).toNat))
  | .eql => some (.bool (a == b))
  | .neq => some (.bool (a != b))
  | .lss => some (.bool (decide (a < b)))
  | .leq => some (.bool (decide (a ≤ b)))
  | .gtr => some (.bool (decide (a > b)))
  | .geq => some (.bool (decide (a ≥ b)))
  | .shl | .shr => none

def shiftI (op : BinOp) (k : IntKind) (a b : Int) : Option PV :=
  if b < 0 then none else
  let n := min b.toNat k.bits
  match op with
  | .shl => some (.int k (k.wrap (a * 2 ^ n)))
  | .shr => some (.int k (a.fdiv (2 ^ n)))
  | _ => none

def kindEq : IntKind → IntKind → Bool
  | .i8, .i8 | .i16, .i16 | .i32, .i32 | .i64, .i64 | .u8, .u8 | .u16, .u16 | .u32, .u32 | .u64, .u64 => true
  | _, _ => false

def binE (op : BinOp) (x y : PV) : Option PV :=
  match x, y with
  | .int k a, .int l b =>
    match op with
    | .shl => shiftI .shl k a b
    | .shr => shiftI .shr k a b
    | op => if kindEq k l then arith op k a b else none
  | _, _ => none

def eqCell : PV → PV → Option Bool
  | .int k a, .int l b => if kindEq k l then some (a == b) else none
  | _, _ => none

def eqCells : List PV → List PV → Option Bool
  | [], [] => some true
  | x :: xs, y :: ys =>
    match eqCell x y with
    | some true => eqCells xs ys
    | some false => some false
    | none => none
  | _, _ => none

def unE (op : UnOp) (x : PV) : Option PV :=
  match op, x with
  | .neg, .int k n => some (.int k (wrapF k (0 - n)))
  | .not, .bool b => some (.bool !b)
  | _, _ => none

/-- The rows of a slice. -/
def rowsOf (sto : Sto) (esz : Nat) : PV → Option (List Row)
  | .sl e _ rows => match rows with
    | [] => some []
    | _ => if Nat.beq e esz then some rows else none
  | .own t e off len _ _ => if Nat.beq e esz then (match sto[t]? with
    | some (.arr _ rows) => some ((rows.drop off).take len)
    | _ => none) else none
  | _ => none

def tokOf : PV → List Nat
  | .own t _ _ _ _ _ => [t]
  | _ => []

/-- What an operation comes to: its value; new blocks; blocks written; blocks read; blocks that nobody may write to from now on. -/
structure Res where
  v : PV
  news : Sto := []
  wr : List (Nat × Blk) := []
  rd : List Nat := []
  fr : List Nat := []

def fillCells : List (Nat × Nat × PV) → List PV → Option (List PV)
  | [], cs => some cs
  | (off, sz, v) :: r, cs =>
    match v.stored with
    | some w => if Nat.beq w.length sz && Nat.ble (off + sz) cs.length then fillCells r (splice off w cs) else none
    | none => none

def fillRows : List (Nat × PV) → List Row → Nat → Option (List Row)
  | [], rows, _ => some rows
  | (i, v) :: r, rows, esz =>
    match v.storedPlain with
    | some w => if Nat.beq w.length esz && Nat.blt i rows.length then fillRows r (rows.set i w) esz else none
    | none => none

def asNat : PV → Option Nat
  | .int _ n => match n with
    | .ofNat m => some m
    | .negSucc _ => none
  | _ => none

def bound (d : Nat) (e : Env) : Option Opd → Option Nat
  | none => some d
  | some x => asNat (x.ev e)

def findKey (k : PV) : List (PV × PV) → Option (Option PV)
  | [] => some none
  | (a, v) :: r =>
    match eqCells k.cells a.cells with
    | some true => some (some v)
    | some false => findKey k r
    | none => none

def putKey (k v : PV) : List (PV × PV) → Option (List (PV × PV))
  | [] => some [(k, v)]
  | (a, u) :: r =>
    match eqCells k.cells a.cells with
    | some true => some ((a, v) :: r)
    | some false => (putKey k v r).map ((a, u) :: ·)
    | none => none

/-- The greatest number of rows that is made here. -/
def most : Nat := 1048576

def loadE (sto : Sto) (agg : Option Nat) : PV → Option Res
  | .ptr t _ row off => match sto[t]? with
    | some (.arr _ rows) => match rows[row]? with
      | some cs => (part agg off cs).map fun v => { v, rd := [t] }
      | none => none
    | some (.box cs) => if Nat.beq row 0 then (part agg off cs).map fun v => { v, rd := [t] } else none
    | _ => none
  | .rptr cs off => (part agg off cs).map fun v => { v }
  | _ => none

def has (l : List Nat) (t : Nat) : Bool := l.any (Nat.beq t)

def storeE (sto : Sto) (fz : List Nat) (sz : Nat) (v : PV) : PV → Option Res
  | .ptr t _ row off => match sto[t]? with
    | some (.arr e rows) => match rows[row]?, v.storedPlain with
      | some cs, some w => if Nat.beq w.length sz && Nat.ble (off + sz) cs.length && !has fz t then
          some { v := .undef, wr := [(t, .arr e (rows.set row (splice off w cs)))] } else none
      | _, _ => none
    | some (.box cs) => match v.stored with
      | some w => if Nat.beq row 0 && Nat.beq w.length sz && Nat.ble (off + sz) cs.length && !has fz t then
          some { v := .undef, wr := [(t, .box (splice off w cs))] } else none
      | none => none
    | _ => none
  | _ => none

def eszOk (esz : Nat) : PV → Bool
  | .sl e _ rows => Nat.beq e esz || rows.isEmpty
  | .own _ e _ _ _ _ => Nat.beq e esz
  | _ => false

def sliceE (x : PV) (lo hi mx : Option Nat) : Option PV :=
  match x with
  | .sl e clip rows =>
    let l := lo.getD 0
    let h := hi.getD rows.length
    match mx with
    | none => if Nat.ble l h && Nat.ble h rows.length then some (.sl e (clip && Nat.beq h rows.length) ((rows.drop l).take (h - l))) else none
    | some m => if Nat.ble l h && Nat.ble h m && Nat.ble m rows.length then some (.sl e (Nat.beq h m) ((rows.drop l).take (h - l))) else none
  | .own t e off len cap ex =>
    let l := lo.getD 0
    let h := hi.getD len
    match mx with
    | none => if Nat.ble l h && Nat.ble h cap then some (.own t e (off + l) (h - l) (cap - l) ex) else none
    | some m => if Nat.ble l h && Nat.ble h m && Nat.ble m cap then some (.own t e (off + l) (h - l) (m - l) true) else none
  | _ => none

def setRows : Nat → List Row → List Row → List Row
  | _, [], rows => rows
  | i, w :: r, rows => setRows (i + 1) r (rows.set i w)

def appendE (sto : Sto) (fz : List Nat) (esz : Nat) (x y : PV) : Option Res :=
  match rowsOf sto esz y with
  | none => none
  | some new =>
    match new with
    | [] => match x with
      | .sl .. | .own .. => some { v := x, rd := tokOf y }
      | _ => none
    | _ =>
      let m := new.length
      match x with
      | .sl e clip rows =>
        if clip && (Nat.beq e esz || Nat.beq rows.length 0) && Nat.ble (rows.length + m) most then
          some { v := .own sto.length esz 0 (rows.length + m) (rows.length + m) false, news := [.arr esz (rows ++ new)], rd := tokOf y }
        else none
      | .own t e off len cap ex =>
        match sto[t]? with
        | some (.arr _ rows) =>
          if !Nat.beq e esz then none
          else if Nat.ble (len + m) cap then
            if has fz t then none else some { v := .own t e off (len + m) cap ex, wr := [(t, .arr e (setRows (off + len) new rows))], rd := tokOf y }
          else if !Nat.ble (len + m) most then none
          else if ex then
            some { v := .own sto.length e 0 (len + m) (len + m) false, news := [.arr e ((rows.drop off).take len ++ new)], rd := t :: tokOf y }
          else if has fz t then none
          else some { v := .own sto.length e 0 (len + m) (len + m) false, news := [.arr e ((rows.drop off).take len ++ new)], wr := [(t, .dead)], rd := tokOf y }
        | _ => none
      | _ => none

def mmE (isMax : Bool) (k : IntKind) : Int → List PV → Option PV
  | a, [] => some (.int k a)
  | a, x :: r => match x with
    | .int l b => if kindEq k l then mmE isMax k (if isMax then (if b > a then b else a) else (if b < a then b else a)) r else none
    | _ => none

def evs (e : Env) (l : List Opd) : List PV := l.map (Opd.ev e)

/-- An operation that calls nothing. -/
def evOp (e : Env) (sto : Sto) (fz : List Nat) : XOp → Option Res
  | .mov x => some { v := x.ev e }
  | .pick c a b => match c.ev e with
    | .bool true => some { v := a.ev e }
    | .bool false => some { v := b.ev e }
    | _ => none
  | .bin op x y => (binE op (x.ev e) (y.ev e)).map fun v => { v }
  | .binb neg x y => match x.ev e, y.ev e with
    | .bool a, .bool b => some { v := .bool (if neg then !(a == b) else a == b) }
    | _, _ => none
  | .eqc n neg x y => match x.ev e, y.ev e with
    | .agg xs, .agg ys => if Nat.beq xs.length n && Nat.beq ys.length n then (eqCells xs ys).map fun b => { v := .bool (if neg then !b else b) } else none
    | _, _ => none
  | .un op x => (unE op (x.ev e)).map fun v => { v }
  | .conv k x => match x.ev e with
    | .int _ n => some { v := .int k (wrapF k n) }
    | _ => none
  | .len x => match x.ev e with
    | .sl _ _ rows => some { v := .int .i64 (.ofNat rows.length) }
    | .own _ _ _ len _ _ => some { v := .int .i64 (.ofNat len) }
    | _ => none
  | .lenc n => some { v := .int .i64 (.ofNat n) }
  | .box x => match (x.ev e).stored with
    | some cs => some { v := .ptr sto.length cs.length 0 0, news := [.box cs] }
    | none => none
  | .alloc cells => some { v := .ptr sto.length cells.length 0 0, news := [.box cells] }
  | .build zero parts => (fillCells (parts.map fun p => (p.1, p.2.1, p.2.2.ev e)) zero).map fun cs => { v := .agg cs }
  | .mkrow esz n zero parts => (fillRows (parts.map fun p => (p.1, p.2.ev e)) (List.replicate n zero) esz).map fun rows =>
      { v := .own sto.length esz 0 n n true, news := [.arr esz rows] }
  | .load agg p => loadE sto agg (p.ev e)
  | .store sz p v => storeE sto fz sz (v.ev e) (p.ev e)
  | .nilc x => match x.ev e with
    | .ptr t s r o => some { v := .ptr t s r o }
    | .rptr c o => some { v := .rptr c o }
    | .clo f a b => some { v := .clo f a b }
    | _ => none
  | .fadr off p => match p.ev e with
    | .ptr t s r o => some { v := .ptr t s r (o + off) }
    | .rptr c o => some { v := .rptr c (o + off) }
    | _ => none
  | .fld agg off x => match x.ev e with
    | .agg cs => (part agg off cs).map fun v => { v }
    | _ => none
  | .iadr esz x i => match asNat (i.ev e) with
    | none => none
    | some n => match x.ev e with
      | .sl s _ rows => match rows[n]? with
        | some cs => if Nat.beq s esz then some { v := .rptr cs 0 } else none
        | none => none
      | .own t s off len _ _ => if Nat.blt n len && Nat.beq s esz then some { v := .ptr t s (off + n) 0 } else none
      | _ => none
  | .iadra n esz p i => match asNat (i.ev e) with
    | none => none
    | some j => if Nat.blt j n then (match p.ev e with
      | .ptr t s r o => some { v := .ptr t s r (o + j * esz) }
      | .rptr c o => some { v := .rptr c (o + j * esz) }
      | _ => none) else none
  | .idx n esz agg x i => match asNat (i.ev e) with
    | none => none
    | some j => if Nat.blt j n then (match x.ev e with
      | .agg cs => (part agg (j * esz) cs).map fun v => { v }
      | _ => none) else none
  | .sidx x i => match asNat (i.ev e), x.ev e with
    | some j, .str s => match s[j]? with
      | some b => some { v := .int .u8 b.toNat }
      | none => none
    | _, _ => none
  | .slc esz x lo hi mx =>
    if !eszOk esz (x.ev e) then none else
    match (match lo with | none => some none | some a => (asNat (a.ev e)).map some),
      (match hi with | none => some none | some a => (asNat (a.ev e)).map some),
      (match mx with | none => some none | some a => (asNat (a.ev e)).map some) with
    | some l, some h, some m => (sliceE (x.ev e) l h m).map fun v => { v }
    | _, _, _ => none
  | .mks esz zero l c => match asNat (l.ev e), asNat (c.ev e) with
    | some n, some m => if Nat.ble n m && Nat.ble m most then
        some { v := .own sto.length esz 0 n m true, news := [.arr esz (List.replicate m zero)] } else none
    | _, _ => none
  | .mkf fn a b => some { v := .clo fn (evs e a) (evs e b) }
  | .mkm => some { v := .mp sto.length, news := [.map []] }
  | .lookup zero ok m k => match m.ev e with
    | .mp t => match sto[t]? with
      | some (.map es) => match findKey (k.ev e) es with
        | some r =>
          let v := r.getD zero
          some { v := if ok then .tup [v, .bool r.isSome] else v, rd := [t] }
        | none => none
      | _ => none
    | _ => none
  | .mapu m k v => match m.ev e with
    | .mp t => match sto[t]? with
      | some (.map es) => match (k.ev e).storedPlain, (v.ev e).storedPlain with
        | some _, some _ => match putKey (k.ev e) (v.ev e) es with
          | some es' => some { v := .undef, wr := [(t, .map es')] }
          | none => none
        | _, _ => none
      | _ => none
    | _ => none
  | .ext i x => match x.ev e with
    | .tup vs => vs[i]?.map fun v => { v }
    | _ => none
  | .append esz x y => appendE sto fz esz (x.ev e) (y.ev e)
  | .copy esz x y => match rowsOf sto esz (y.ev e), x.ev e with
    | some src, .own t s off len _ _ => match sto[t]? with
      | some (.arr s' rows) =>
        if Nat.beq s esz && !has fz t then
          let n := min src.length len
          some { v := .int .i64 (.ofNat n), wr := [(t, .arr s' (setRows off (src.take n) rows))], rd := tokOf (y.ev e) }
        else none
      | _ => none
    | _, _ => none
  | .clear esz zero x => match x.ev e with
    | .own t s off len _ _ => match sto[t]? with
      | some (.arr s' rows) =>
        if Nat.beq s esz && !has fz t then
          some { v := .undef, wr := [(t, .arr s' (setRows off (List.replicate len zero) rows))] }
        else none
      | _ => none
    | .sl _ _ [] => some { v := .undef }
    | _ => none
  | .mm isMax x xs => match x.ev e with
    | .int k a => (mmE isMax k a (evs e xs)).map fun v => { v }
    | _ => none
  | .call .. => none
  | .callv .. => none
  | .bad => none

/-! ### what goes over the border of a pure call -/

mutual
/-- 'bx': the cells of a block, as they go over. -/
def exP (sto : Sto) (bx : Nat → Option (List PV)) : PV → Option PV
  | .undef => none
  | .nul => none
  | .int k n => some (.int k n)
  | .bool b => some (.bool b)
  | .str s => some (.str s)
  | .agg cs => (exL sto bx cs).map .agg
  | .tup cs => (exL sto bx cs).map .tup
  | .sl e _ rows => some (.sl e false rows)
  | .own t e off len _ _ => match sto[t]? with
    | some (.arr _ rows) => some (.sl e false ((rows.drop off).take len))
    | _ => none
  | .ptr t _ row off => match sto[t]? with
    | some (.box _) => if Nat.beq row 0 then (bx t).map (.rptr · off) else none
    | some (.arr _ rows) => rows[row]?.map (.rptr · off)
    | _ => none
  | .rptr cs off => (exL sto bx cs).map (.rptr · off)
  | .mp _ => none
  | .clo f a b => match exL sto bx a, exL sto bx b with
    | some a', some b' => some (.clo f a' b')
    | _, _ => none
  | .nilf => some .nilf
def exL (sto : Sto) (bx : Nat → Option (List PV)) : List PV → Option (List PV)
  | [] => some []
  | x :: xs => match exP sto bx x, exL sto bx xs with
    | some y, some ys => some (y :: ys)
    | _, _ => none
end

def exBx (sto : Sto) : Nat → Nat → Option (List PV)
  | 0, _ => none
  | n + 1, t => match sto[t]? with
    | some (.box cs) => exL sto (exBx sto n) cs
    | _ => none

mutual
/-- The blocks that a value leads to; 'bx': those behind a block. -/
def toks (bx : Nat → List Nat) : PV → List Nat
  | .agg cs => toksL bx cs
  | .tup cs => toksL bx cs
  | .own t _ _ _ _ _ => [t]
  | .ptr t _ _ _ => t :: bx t
  | .rptr cs _ => toksL bx cs
  | .mp t => [t]
  | .clo _ a b => toksL bx a ++ toksL bx b
  | .undef | .nul | .int _ _ | .bool _ | .str _ | .sl .. | .nilf => []
def toksL (bx : Nat → List Nat) : List PV → List Nat
  | [] => []
  | x :: xs => toks bx x ++ toksL bx xs
end

def noBx (_ : Nat) : List Nat := []

def toksBx (sto : Sto) : Nat → Nat → List Nat
  | 0, _ => []
  | n + 1, t => match sto[t]? with
    | some (.box cs) => toksL (toksBx sto n) cs
    | _ => []

mutual
def PV.noref : PV → Bool
  | .int _ _ | .bool _ | .str _ => true
  | .agg cs => norefL cs
  | .tup cs => norefL cs
  | _ => false
def norefL : List PV → Bool
  | [] => true
  | x :: xs => x.noref && norefL xs
end

mutual
/-- A result as it is kept where nobody writes to it. -/
def imF (sto : Sto) : PV → Option PV
  | .int k n => some (.int k n)
  | .bool b => some (.bool b)
  | .str s => some (.str s)
  | .agg cs => (imFL sto cs).map .agg
  | .tup cs => (imFL sto cs).map .tup
  | .sl e _ rows => some (.sl e false rows)
  | .own t e off len _ _ => match sto[t]? with
    | some (.arr _ rows) => some (.sl e false ((rows.drop off).take len))
    | _ => none
  | _ => none
def imFL (sto : Sto) : List PV → Option (List PV)
  | [] => some []
  | x :: xs => match imF sto x, imFL sto xs with
    | some y, some ys => some (y :: ys)
    | _, _ => none
end

mutual
/-- A result whose slices become blocks of the caller's own, each once: 'nx' the next number, 'seen' the callee's that are taken. -/
def imO (sto : Sto) (fz : List Nat) : Nat → List Nat → PV → Option (PV × Sto × List Nat)
  | _, seen, .int k n => some (.int k n, [], seen)
  | _, seen, .bool b => some (.bool b, [], seen)
  | nx, seen, .agg cs => (imOL sto fz nx seen cs).map fun r => (.agg r.1, r.2)
  | nx, seen, .tup cs => (imOL sto fz nx seen cs).map fun r => (.tup r.1, r.2)
  | nx, seen, .sl e true [] => some (.own nx e 0 0 0 false, [.arr e []], seen)
  | nx, seen, .own t e off len cap ex => match sto[t]? with
    | some (.arr e' rows) => if has seen t || has fz t then none else some (.own nx e off len cap ex, [.arr e' rows], t :: seen)
    | _ => none
  | _, _, _ => none
def imOL (sto : Sto) (fz : List Nat) : Nat → List Nat → List PV → Option (List PV × Sto × List Nat)
  | _, seen, [] => some ([], [], seen)
  | nx, seen, x :: xs => match imO sto fz nx seen x with
    | some (y, n1, seen1) => match imOL sto fz (nx + n1.length) seen1 xs with
      | some (ys, n2, seen2) => some (y :: ys, n1 ++ n2, seen2)
      | none => none
    | none => none
end

/-! ### the head of a loop: what is kept, in one form -/

def blkToks : Blk → List Nat
  | .box cs => toksL noBx cs
  | _ => []

def reach (sto : Sto) : Nat → List Nat → List Nat → Option (List Nat)
  | _, [], seen => some seen
  | 0, _ :: _, _ => none
  | n + 1, t :: ts, seen =>
    if has seen t then reach sto n ts seen
    else match sto[t]? with
      | some b => reach sto n (blkToks b ++ ts) (seen ++ [t])
      | none => none

def idxOf (t : Nat) : List Nat → Option Nat
  | [] => none
  | s :: r => if Nat.beq s t then some 0 else (idxOf t r).map (· + 1)

mutual
def ren (m : List Nat) : PV → Option PV
  | .agg cs => (renL m cs).map .agg
  | .tup cs => (renL m cs).map .tup
  | .own t e off len cap ex => (idxOf t m).map fun u => .own u e off len cap ex
  | .ptr t e row off => (idxOf t m).map fun u => .ptr u e row off
  | .rptr cs off => (renL m cs).map (.rptr · off)
  | .mp t => (idxOf t m).map .mp
  | .clo f a b => match renL m a, renL m b with
    | some a', some b' => some (.clo f a' b')
    | _, _ => none
  | .undef => some .undef
  | .nul => some .nul
  | .int k n => some (.int k n)
  | .bool b => some (.bool b)
  | .str s => some (.str s)
  | .sl e c rows => some (.sl e c rows)
  | .nilf => some .nilf
def renL (m : List Nat) : List PV → Option (List PV)
  | [] => some []
  | x :: xs => match ren m x, renL m xs with
    | some y, some ys => some (y :: ys)
    | _, _ => none
end

def renBlk (m : List Nat) : Blk → Option Blk
  | .box cs => (renL m cs).map .box
  | .arr e rows => some (.arr e rows)
  | .map es => some (.map es)
  | .dead => some .dead

def renSto (sto : Sto) (m : List Nat) : List Nat → Option Sto
  | [] => some []
  | t :: ts => match sto[t]? with
    | some b => match renBlk m b, renSto sto m ts with
      | some b', some r => some (b' :: r)
      | _, _ => none
    | none => none

def renFz (fz : List Nat) : Nat → List Nat → List Nat
  | _, [] => []
  | i, t :: ts => if has fz t then i :: renFz fz (i + 1) ts else renFz fz (i + 1) ts

/-- The live slots, renamed; an empty slice in a slot that is marked becomes a block of its own. -/
def liveEnv (e : Env) (m : List Nat) : Nat → List (Nat × Option Nat) → Option (Env × Sto)
  | _, [] => some ([], [])
  | nx, (s, k) :: r =>
    match k, lk s e with
    | some esz, .sl _ true [] => (liveEnv e m (nx + 1) r).map fun p => ((s, .own nx esz 0 0 0 false) :: p.1, .arr esz [] :: p.2)
    | _, v => match ren m v, liveEnv e m nx r with
      | some v', some p => some ((s, v') :: p.1, p.2)
      | _, _ => none

def upTo : Nat → List Nat
  | 0 => []
  | n + 1 => upTo n ++ [n]

def norm (live : List (Nat × Option Nat)) (st : St) : Option St :=
  match reach st.sto 4096 ((st.sto.take st.kn).flatMap blkToks ++ live.flatMap fun p => toks noBx (lk p.1 st.env)) (upTo st.kn) with
  | none => none
  | some m => match renSto st.sto m m, liveEnv st.env m m.length live with
    | some s1, some (e1, s2) => some { env := e1, sto := s1 ++ s2, fz := renFz st.fz 0 m, kn := st.kn }
    | _, _ => none

/-! ### the machine -/

inductive Task where
  | func (f : FuncId) (args : List PV) (sto : Sto) (fz : List Nat)
  | loop (live : List (Nat × Option Nat)) (b : XCode) (st : St)

inductive Out where
  | func (v : PV) (sto : Sto) (fz : List Nat)
  | code (e : XExit) (st : St)

/-- What an operation touches: for the regions that draw their order. -/
structure Tr where
  rd : List Nat
  wr : List Nat
  al : Bool
  bar : Bool
  cl : Bool
  lo : Nat
  hi : Nat

/-- An operation's outcome: 'loc': as 'Res' says; 'shr': a call that worked on the blocks themselves. -/
inductive XR where
  | loc (r : Res)
  | shr (v : PV) (sto : Sto) (fz : List Nat)

def applyWr : List (Nat × Blk) → Sto → Sto
  | [], s => s
  | (t, b) :: r, s => applyWr r (s.set t b)

def isOwnPtr : PV → Bool
  | .ptr .. => true
  | .own .. => true
  | .mp _ => true
  | _ => false

/-- How deep a pure call's arguments are followed through blocks. -/
def deep : Nat := 8

def callPure (F : Tab) (rec : Task → Option Out) (own : Bool) (f : FuncId) (args : List PV) (sto : Sto) (fz : List Nat) : Option Res :=
  match exL sto (exBx sto deep) args with
  | none => none
  | some args' =>
    let tk := toksL (toksBx sto deep) args
    match F f with
    | some (.prim kills p) => match p args' with
      | some (v, news) => match imO news [] sto.length [] v with
        | some (v', n2, _) =>
          if kills then match args with
            | .own t _ _ _ _ _ :: r =>
              let tr := toksL (toksBx sto deep) r
              if has fz t || has tr t then none
              else some { v := v', news := n2, wr := [(t, .dead)], rd := tr }
            | _ => none
          else some { v := v', news := n2, rd := tk }
        | none => none
      | none => none
    | _ => match rec (.func f args' [] []) with
      | some (.func v s1 z1) =>
        if own then match imO s1 z1 sto.length [] v with
          | some (v', n2, _) => some { v := v', news := n2, rd := tk }
          | none => none
        else if v.noref then some { v, rd := tk }
        else match imF s1 v with
          | some v' => some { v := v', rd := tk, fr := tk }
          | none => none
      | _ => none

def callShared (rec : Task → Option Out) (f : FuncId) (args : List PV) (sto : Sto) (fz : List Nat) : Option XR :=
  match rec (.func f args sto fz) with
  | some (.func v s z) => if Nat.ble sto.length s.length && fz.all (has z) then some (.shr v s z) else none
  | _ => none

def evX (F : Tab) (rec : Task → Option Out) (e : Env) (sto : Sto) (fz : List Nat) : XOp → Option XR
  | .call m f args => match m with
    | .pur => (callPure F rec false f (evs e args) sto fz).map .loc
    | .own => (callPure F rec true f (evs e args) sto fz).map .loc
    | .shr => callShared rec f (evs e args) sto fz
  | .callv x args => match x.ev e with
    | .clo f a b =>
      if (evs e args ++ b).any isOwnPtr then callShared rec f (a ++ evs e args ++ b) sto fz
      else (callPure F rec false f (a ++ evs e args ++ b) sto fz).map .loc
    | _ => none
  | op => (evOp e sto fz op).map .loc

def putEnv (d : Option Nat) (v : PV) (e : Env) : Env :=
  match d with
  | some t => (t, v) :: e
  | none => e

/-- Blocks that are new, behind the others. -/
def addN (s : Sto) : List Blk → Sto
  | [] => s
  | b :: r => s ++ b :: r

theorem addN_eq (s : Sto) (l : List Blk) : addN s l = s ++ l := by
  cases l
  · exact (List.append_nil s).symm
  · rfl

def XR.next (d : Option Nat) (st : St) : XR → St
  | .loc r => { env := putEnv d r.v st.env, sto := addN (applyWr r.wr st.sto) r.news, fz := r.fr ++ st.fz, kn := st.kn }
  | .shr v s z => { env := putEnv d v st.env, sto := s, fz := z, kn := st.kn }

def XR.tr (nx : Nat) : XR → Tr
  | .loc r => ⟨r.rd ++ r.fr, r.wr.map (·.1), !r.news.isEmpty, false, (r.rd ++ r.fr).all (Nat.blt · nx) && r.wr.all (fun p => Nat.blt p.1 nx), nx, nx + r.news.length⟩
  | .shr .. => ⟨[], [], true, true, true, 0, 0⟩

/-- What is written is not frozen. -/
def XR.ok (fz : List Nat) : XR → Bool
  | .loc r => (r.wr.all fun p => !has fz p.1) && Nat.ble r.wr.length 1
  | .shr .. => true

def Tr.idle : Tr := ⟨[], [], false, false, true, 0, 0⟩

/-- Is an operation run? -/
def wanted (g : Option (Nat × Bool)) (e : Env) : Option Bool :=
  match g with
  | none => some true
  | some (s, want) => match lk s e with
    | .bool b => some (b == want)
    | .nul => some false
    | _ => none

def evOps (F : Tab) (rec : Task → Option Out) : List XOper → St → List Tr → Option (St × List Tr)
  | [], st, tr => some (st, tr)
  | o :: r, st, tr =>
    match wanted o.guard st.env with
    | some true => match evX F rec st.env st.sto st.fz o.op with
      | some x => if x.ok st.fz then evOps F rec r (x.next o.dst st) (x.tr st.sto.length :: tr) else none
      | none => none
    | some false => evOps F rec r { st with env := putEnv o.dst .nul st.env } (Tr.idle :: tr)
    | none => none

def meets (a b : List Nat) : Bool := a.any (has b)
def Tr.touches (a : Tr) : Bool := !a.rd.isEmpty || !a.wr.isEmpty || a.al || a.bar
def Tr.clash (a b : Tr) : Bool :=
  (a.bar && b.touches) || (b.bar && a.touches) || meets a.wr b.rd || meets a.wr b.wr || meets a.rd b.wr ||
    b.wr.any fun t => Nat.ble a.lo t && Nat.blt t a.hi

/-- Operation i clashes with none of the later ones, but for those that are bound to run behind it. 'l': the later ones with their 'before'. -/
def freeOf (i : Nat) (a : Tr) : List (Tr × Nat) → Bool
  | [] => true
  | (b, bf) :: r => (!a.clash b || bf.testBit i) && freeOf i a r

def orderOk : Nat → List (Tr × Nat) → Bool
  | _, [] => true
  | i, (a, _) :: r => a.cl && freeOf i a r && orderOk (i + 1) r

def evRegion (F : Tab) (rec : Task → Option Out) (draw : Option (List Nat)) (ops : List XOper) (keep : List Nat) (st : St) : Option St :=
  match evOps F rec ops st [] with
  | none => none
  | some (st', tr) =>
    let st2 : St := { st' with env := keep.map fun s => (s, lk s st'.env) }
    match draw with
    | none => some st2
    | some bf => if orderOk 0 (tr.reverse.zip bf) then some st2 else none

def evC (F : Tab) (rec : Task → Option Out) : XCode → St → Option (XExit × St)
  | .skip, st => some (.normal, st)
  | .region d ops keep, st => (evRegion F rec d ops keep st).map fun s => (.normal, s)
  | .seq a b, st => match evC F rec a st with
    | some (.normal, st') => evC F rec b st'
    | r => r
  | .cond c a b, st => match c.ev st.env with
    | .bool true => evC F rec a st
    | .bool false => evC F rec b st
    | _ => none
  | .block id b, st => match evC F rec b st with
    | some (.exit j, st') => if Nat.beq j id then some (.normal, st') else some (.exit j, st')
    | r => r
  | .loop live b, st => match rec (.loop live b st) with
    | some (.code e st') => some (e, st')
    | _ => none
  | .exit id, st => some (.exit id, st)
  | .ret, st => some (.ret, st)

def resOf (st : St) : RV → Option PV
  | .tmp t => some (lk t st.env)
  | .cell t agg => (loadE st.sto agg (lk t st.env)).map (·.v)

def resAll (st : St) : List RV → Option (List PV)
  | [] => some []
  | r :: rs => match resOf st r, resAll st rs with
    | some v, some vs => some (v :: vs)
    | _, _ => none

def results1 : List PV → PV
  | [v] => v
  | vs => .tup vs

def envOf : Nat → List PV → Env
  | _, [] => []
  | i, v :: r => (i, v) :: envOf (i + 1) r

def step (F : Tab) (rec : Task → Option Out) : Task → Option Out
  | .func f args sto fz => match F f with
    | some (.code x) =>
      if Nat.beq args.length x.nargs then
        match evC F rec x.code { env := envOf 0 args, sto, fz, kn := sto.length } with
        | some (.normal, st) => (resAll st x.res).map fun vs => .func (results1 vs) st.sto st.fz
        | some (.ret, st) => (resAll st x.res).map fun vs => .func (results1 vs) st.sto st.fz
        | _ => none
      else none
    | _ => none
  | .loop live b st => match norm live st with
    | none => none
    | some st1 => match evC F rec b st1 with
      | some (.normal, st2) => rec (.loop live b st2)
      | some (e, st2) => some (.code e st2)
      | none => none

/-! ### functions that are known without their code -/

def pClone (esz : Nat) : List PV → Option (PV × Sto)
  | [.sl e _ rows] => if Nat.beq e esz || rows.isEmpty then (if Nat.ble rows.length most then some (.own 0 esz 0 rows.length rows.length false, [.arr esz rows]) else none) else none
  | _ => none

def pInsert (esz : Nat) : List PV → Option (PV × Sto)
  | [.sl e _ rows, .int .i64 (.ofNat i), .sl e' _ new] =>
    if (Nat.beq e esz || rows.isEmpty) && (Nat.beq e' esz || new.isEmpty) && Nat.ble i rows.length && Nat.ble (rows.length + new.length) most then
      let r := rows.take i ++ new ++ rows.drop i
      some (.own 0 esz 0 r.length r.length false, [.arr esz r])
    else none
  | _ => none

/-- math/bits.Add64, Sub64: the sum and the carry. -/
def pAdd64 : List PV → Option (PV × Sto)
  | [.int .u64 (.ofNat a), .int .u64 (.ofNat b), .int .u64 (.ofNat c)] =>
    if Nat.ble c 1 then
      let s := a + b + c
      some (.tup [.int .u64 (.ofNat (s % 18446744073709551616)), .int .u64 (.ofNat (s / 18446744073709551616))], [])
    else none
  | _ => none

noncomputable def run (F : Tab) (n : Nat) : Task → Option Out := Nat.rec (fun _ => none) (fun _ ih => step F ih) n

end Go.Vm
