/- The look at an operation of the model: is the logical machine's operation its own? -/
import Derived.Test.YtohmmcfniijjkaaMVmDef
import Derived.Laws.StructEq
namespace Go.Vm

mutual
def cval : PV → Value → Bool
  | .int k n, .int l m => kindEq k l && n == m
  | .bool a, .bool b => a == b
  | .sl _ _ [], .slice none 0 0 => true
  | .agg cs, .agg vs => cvalL cs vs.toList
  | .nilf, .nilFunc => true
  | .undef, _ => true
  | _, _ => false
def cvalL : List PV → List Value → Bool
  | [], [] => true
  | x :: xs, v :: vs => cval x v && cvalL xs vs
  | _, _ => false
end

def chkOpd : Opd → Operand → Bool
  | .t n, .tmp m => n == m
  | .c v, .const u => cval v u
  | .c (.clo f [] []), .func g => f == g
  | .c .undef, _ => true
  | _, _ => false

def chkOpds : List Opd → List Operand → Bool
  | [], [] => true
  | x :: xs, o :: os => chkOpd x o && chkOpds xs os
  | _, _ => false

def chkOpo : Option Opd → Option Operand → Bool
  | none, none => true
  | some x, some o => chkOpd x o
  | _, _ => false

section
variable (P : Program)

def isRowT (t : TypeId) : Bool :=
  match P.underlying t with
  | some (.struct _) | some (.array _ _) => true
  | _ => false

def szIs (t : TypeId) (n : Nat) : Bool := (P.info? t).any fun i => i.size == n
def bytesOk (t : TypeId) : Bool := (P.info? t).any fun i => Nat.ble i.bytes 1048576

/-- How a variable of a type is read: whole, or as one cell. -/
def aggIs (t : TypeId) (agg : Option Nat) : Bool :=
  (P.underlying t).isSome && match agg with
  | some n => isRowT P t && szIs P t n
  | none => !isRowT P t && szIs P t 1

def sliceOf (t : TypeId) (esz : Nat) : Bool :=
  match P.underlying t with
  | some (.slice e) => szIs P e esz
  | _ => false

def isSliceT (t : TypeId) : Bool :=
  match P.underlying t with
  | some (.slice _) => true
  | _ => false

def arrayIs (t : TypeId) (n esz : Nat) : Bool :=
  match P.underlying t with
  | some (.array m e) => m == n && szIs P e esz
  | _ => false

def zeroIs (t : TypeId) (cells : List PV) : Bool :=
  match (P.info? t).bind (·.zero) with
  | some v => cvalL cells v.cells.toList
  | none => false

/-- The offsets of the leaves of a type that is compared cell by cell: all of them in order. -/
def flat : Nat → TypeId → Option Nat
  | 0, _ => none
  | d + 1, t =>
    match P.underlying t with
    | some (.int _) => if szIs P t 1 then some 1 else none
    | some (.struct fs) =>
      if P.stoodInHeld t then none else
      match fs.toList.foldl (fun r f => match r with
        | some n => if f.offset == n && f.name != "_" then (match flat d f.type with
          | some m => if szIs P f.type m then some (n + m) else none
          | none => none) else none
        | none => none) (some 0) with
      | some n => if szIs P t n then some n else none
      | none => none
    | _ => none

def chkParts (place : Nat → Option (Nat × Nat)) : List (Nat × Nat × Opd) → List (Nat × Operand) → Bool
  | [], [] => true
  | (off, sz, x) :: r, (i, o) :: s => (match place i with | some (a, b) => a == off && b == sz | none => false) && chkOpd x o && chkParts place r s
  | _, _ => false

def chkRowParts : List (Nat × Opd) → List (Nat × Operand) → Bool
  | [], [] => true
  | (i, x) :: r, (j, o) :: s => i == j && chkOpd x o && chkRowParts r s
  | _, _ => false

def placeOf (t : TypeId) : Nat → Option (Nat × Nat) :=
  match P.underlying t with
  | some (.struct fs) => fun i => (fs[i]?).bind fun f => (P.info? f.type).map fun j => (f.offset, j.size)
  | some (.array _ e) => fun i => (P.info? e).map fun j => (i * j.size, j.size)
  | _ => fun _ => none

def hasBody (f : FuncId) : Bool := (P.funcs[f]?).any fun fn => fn.body.isSome && !(fn.name == "runtime.NumGoroutine")

/-- Op by op. -/
def chkOp (prims : FuncId → Bool) (ty : TypeId) : XOp → Op → Bool
  | .mov x, .move o => chkOpd x o
  | .mov x, .assign o => chkOpd x o
  | .pick c a b, .pick d e f => chkOpd c d && chkOpd a e && chkOpd b f
  | .bin op x y, .binOp op' _ a b _ => op == op' && chkOpd x a && chkOpd y b
  | .binb neg x y, .binOp op t a b _ => (if neg then op == .neq else op == .eql) && P.underlying t matches some .bool && chkOpd x a && chkOpd y b
  | .eqc n neg x y, .binOp op t a b _ => (if neg then op == .neq else op == .eql) && isRowT P t && flat P 100 t == some n && !P.eqGuardType P.depth t && chkOpd x a && chkOpd y b
  | .un op x, .unOp op' _ a => op == op' && chkOpd x a
  | .conv k x, .convert s d a => (P.underlying s).isSome && (match P.underlying d with | some (.int l) => kindEq k l | _ => false) && chkOpd x a
  | .len x, .call { callee := .builtin .len, args, argTypes } => (match argTypes[0]? with | some t => isSliceT P t | none => false) && chkOpds [x] args.toList
  | .lenc n, .call { callee := .builtin .len, args, argTypes } => !args.isEmpty && (match argTypes[0]? with
      | some t => (match P.underlying t with
        | some (.array m _) => m == n
        | some (.pointer e) => (match P.underlying e with | some (.array m _) => m == n | _ => false)
        | _ => false)
      | none => false)
  | .box x, .box _ a => chkOpd x a
  | .alloc cells, .alloc t => zeroIs P t cells
  | .build zero parts, .build t ps => zeroIs P t zero && isRowT P t && chkParts (placeOf P t) parts ps.toList
      && (match P.underlying t with | some (.struct fs) => fs.all fun f => (P.info? f.type).isSome | some (.array _ e) => (P.info? e).isSome | _ => false)
  | .mkrow esz n zero parts, .buildSlice t m ps => n == m && (match P.underlying t with | some (.slice e) => szIs P e esz && zeroIs P e zero && zero.length == esz && !(esz == 0) | _ => false) && Nat.ble (n * esz) 1048576 && zero.all PV.plain && chkRowParts parts ps.toList
  | .load agg p, .load t a => aggIs P t agg && chkOpd p a
  | .store sz p v, .store t a b => szIs P t sz && chkOpd p a && chkOpd v b
  | .nilc x, .nilCheck a => chkOpd x a
  | .fadr off p, .fieldAddr t a f => (match P.underlying t with
      | some (.struct fs) => (match fs[f]? with | some g => g.offset == off && (P.info? g.type).any fun i => !(i.size == 0) | none => false)
      | _ => false) && chkOpd p a
  | .fld agg off x, .field t a f => (match P.underlying t with
      | some (.struct fs) => (match fs[f]? with | some g => g.offset == off && aggIs P g.type agg | none => false)
      | _ => false) && chkOpd x a
  | .iadr esz x i, .indexAddr t a j => sliceOf P t esz && chkOpd x a && chkOpd i j
  | .iadra n esz p i, .indexAddr t a j => arrayIs P t n esz && chkOpd p a && chkOpd i j
  | .idx n esz agg x i, .index t a j => (match P.underlying t with | some (.array m e) => m == n && szIs P e esz && aggIs P e agg | _ => false) && chkOpd x a && chkOpd i j
  | .sidx x i, .index t a j => P.underlying t matches some .string && chkOpd x a && chkOpd i j
  | .slc esz x l h m, .slice t a b c d => (m.isNone || h.isSome) && sliceOf P t esz && chkOpd x a && chkOpo l b && chkOpo h c && chkOpo m d
  | .mks esz zero l c, .makeSlice t a b => (match P.underlying t with | some (.slice e) => szIs P e esz && zeroIs P e zero && zero.length == esz && bytesOk P e && !(esz == 0) | _ => false) && zero.all PV.plain && chkOpd l a && chkOpd c b
  | .mkf fn a b, .makeFunc (.func g) c d => fn == g && chkOpds a c.toList && chkOpds b d.toList
  | .mkm, .makeMap _ none => true
  | .ext i x, .extract a j => i == j && chkOpd x a
  | .append esz x y, .call { callee := .builtin .append, args, argTypes } => (match argTypes.toList with
      | [t, u] => (match P.underlying t with | some (.slice e) => szIs P e esz && bytesOk P e && !(esz == 0) && (P.info? e).any (fun i => i.zero.any fun z => z.cells.size == esz) | _ => false) && isSliceT P u
      | _ => false) && chkOpds [x, y] args.toList
  | .mm isMax x xs, .call { callee := .builtin b, args, argTypes := _ } => (if isMax then b == .max else b == .min) && chkOpds (x :: xs) args.toList
  | .call _ f args, .call { callee := .value (.func g), args := as, argTypes := _ } => f == g && (prims f || hasBody P f) && chkOpds args as.toList
  | .callv x args, .call { callee := .value (.tmp t), args := as, argTypes := _ } => chkOpd x (.tmp t) && chkOpds args as.toList
  | .bad, _ => true
  | _, _ => ty == 0 && false

end

end Go.Vm
