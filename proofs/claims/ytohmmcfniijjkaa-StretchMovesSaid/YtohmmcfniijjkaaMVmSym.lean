/- Regions of one order, step by step, for contracts. -/
import Derived.Test.YtohmmcfniijjkaaMVmWp
namespace Go.Vm

def isCall : XOp → Bool
  | .call .. | .callv .. => true
  | _ => false

variable {F : Tab}

/-- A region's operations from a state on; the trace is not asked for. -/
def WS (F : Tab) (ops : List XOper) (st : St) (Q : St → Prop) : Prop := ∀ tr, WO F ops st tr (fun s _ => Q s)

def stepOp (st : St) (o : XOper) : Option St :=
  match wanted o.guard st.env with
  | some true => match evOp st.env st.sto st.fz o.op with
    | some x => if (XR.loc x).ok st.fz then some ((XR.loc x).next o.dst st) else none
    | none => none
  | some false => some { st with env := putEnv o.dst .nul st.env }
  | none => none

theorem evX_loc {rec : Task → Option Out} {e : Env} {sto : Sto} {fz : List Nat} {op : XOp} (h : isCall op = false) :
    evX F rec e sto fz op = (evOp e sto fz op).map .loc := by
  cases op <;> first | rfl | cases h

theorem WS.nil {st : St} {Q : St → Prop} (h : Q st) : WS F [] st Q := fun _ => WO.nil h

theorem WS.cons {o : XOper} {r : List XOper} {st st' : St} {Q : St → Prop} (h : isCall o.op = false) (hs : stepOp st o = some st') (k : WS F r st' Q) : WS F (o :: r) st Q := by
  intro tr
  unfold stepOp at hs
  split at hs
  · rename_i hw
    split at hs
    · rename_i x hx
      split at hs
      · rename_i hok
        injection hs with hs; subst hs
        exact WO.op x hw (fun rec => by rw [evX_loc h, hx]; rfl) hok (k _)
      · cases hs
    · cases hs
  · rename_i hw
    injection hs with hs; subst hs
    exact WO.skip hw (k _)
  · cases hs

theorem WS.one {o : XOper} {r : List XOper} {st : St} {Q : St → Prop} (x : Res) (hc : isCall o.op = false) (hw : wanted o.guard st.env = some true) (hx : evOp st.env st.sto st.fz o.op = some x) (hok : (XR.loc x).ok st.fz = true)
    (k : WS F r ((XR.loc x).next o.dst st) Q) : WS F (o :: r) st Q := fun tr =>
  WO.op x hw (fun rec => by rw [evX_loc hc, hx]; rfl) hok (k _)

/-- The operations that call nothing, at once. -/
def stepOps : List XOper → St → Option St
  | [], st => some st
  | o :: r, st => match isCall o.op with
    | true => none
    | false => match stepOp st o with
      | some st' => stepOps r st'
      | none => none

theorem WS.all : ∀ {ops : List XOper} {st st' : St} {Q : St → Prop}, stepOps ops st = some st' → Q st' → WS F ops st Q
  | [], st, st', Q, h, hq => by simp only [stepOps, Option.some.injEq] at h; subst h; exact WS.nil hq
  | o :: r, st, st', Q, h, hq => by
    simp only [stepOps] at h
    cases hc : isCall o.op with
    | true => rw [hc] at h; cases h
    | false =>
      rw [hc] at h
      dsimp only at h
      cases hs : stepOp st o with
      | none => rw [hs] at h; cases h
      | some s1 => rw [hs] at h; exact WS.cons hc hs (WS.all h hq)

theorem WP.reg {ops : List XOper} {keep : List Nat} {st : St} {Q : XExit → St → Prop} (h : WS F ops st (fun s => Q .normal (keepOnly keep s))) : WP F (.region none ops keep) st Q := WP.region (h [])

/-- A region without calls, at once. -/
theorem WP.regAll {ops : List XOper} {keep : List Nat} {st st' : St} {Q : XExit → St → Prop} (h : stepOps ops st = some st') (hq : Q .normal (keepOnly keep st')) : WP F (.region none ops keep) st Q :=
  WP.reg (WS.all h hq)

theorem WS.pure {d : Option Nat} {g : Option (Nat × Bool)} {f : FuncId} {as : List Opd} {r : List XOper} {st : St} {Q : St → Prop}
    {args : List PV} {v : PV} (h : Pure F f args v) (hw : wanted g st.env = some true) (ha : exL st.sto (exBx st.sto deep) (evs st.env as) = some args)
    (k : WS F r { st with env := putEnv d v st.env } Q) : WS F (⟨d, .call .pur f as, g⟩ :: r) st Q := fun tr => by
  refine WO.pure h hw ha ?_
  have := k (XR.tr st.sto.length (.loc { v, rd := toksL (toksBx st.sto deep) (evs st.env as) }) :: tr)
  simpa [XR.next, addN_eq, applyWr] using this

theorem WS.pureF {d : Option Nat} {g : Option (Nat × Bool)} {f : FuncId} {as : List Opd} {r : List XOper} {st : St} {Q : St → Prop}
    {args : List PV} {v : PV} (h : PureF F f args v) (hw : wanted g st.env = some true) (ha : exL st.sto (exBx st.sto deep) (evs st.env as) = some args)
    (k : WS F r { st with env := putEnv d v st.env, fz := toksL (toksBx st.sto deep) (evs st.env as) ++ st.fz } Q) : WS F (⟨d, .call .pur f as, g⟩ :: r) st Q := fun tr => by
  refine WO.pureF h hw ha ?_
  have := k (XR.tr st.sto.length (.loc { v, rd := toksL (toksBx st.sto deep) (evs st.env as), fr := toksL (toksBx st.sto deep) (evs st.env as) }) :: tr)
  simpa [XR.next, addN_eq, applyWr] using this

/-- A call that works on the blocks themselves. -/
theorem WS.shr {d : Option Nat} {g : Option (Nat × Bool)} {f : FuncId} {as : List Opd} {r : List XOper} {st : St} {Q : St → Prop}
    (hw : wanted g st.env = some true) (h : Does F f (evs st.env as) st.sto st.fz fun v s z => (Nat.ble st.sto.length s.length && st.fz.all (has z)) = true ∧ WS F r { st with env := putEnv d v st.env, sto := s, fz := z } Q) :
    WS F (⟨d, .call .shr f as, g⟩ :: r) st Q := fun tr => by
  obtain ⟨n, v, s, z, hr, hc, hk⟩ := h
  refine WO.call (.shr v s z) hw ⟨n, ?_⟩ rfl (hk _)
  simp only [evX, callShared, hr]
  rw [if_pos hc]

/-- A call of a function value that works on the blocks. -/
theorem WS.shrv {d : Option Nat} {g : Option (Nat × Bool)} {x : Opd} {f : FuncId} {a b : List PV} {as : List Opd} {r : List XOper} {st : St} {Q : St → Prop}
    (hw : wanted g st.env = some true) (hx : x.ev st.env = .clo f a b) (ho : (evs st.env as ++ b).any isOwnPtr = true)
    (h : Does F f (a ++ evs st.env as ++ b) st.sto st.fz fun v s z => (Nat.ble st.sto.length s.length && st.fz.all (has z)) = true ∧ WS F r { st with env := putEnv d v st.env, sto := s, fz := z } Q) :
    WS F (⟨d, .callv x as, g⟩ :: r) st Q := fun tr => by
  obtain ⟨n, v, s, z, hr, hc, hk⟩ := h
  refine WO.call (.shr v s z) hw ⟨n, ?_⟩ rfl (hk _)
  simp only [evX, hx, ho, if_true, callShared, hr]
  rw [if_pos hc]

theorem wrapF_i64 {n : Int} (h1 : -9223372036854775808 ≤ n) (h2 : n < 9223372036854775808) : wrapF .i64 n = n := by
  cases n with
  | ofNat m =>
    have hb : m < 9223372036854775808 := by
      have : (Int.ofNat m) = (m : Int) := rfl
      omega
    show (if Nat.blt m 9223372036854775808 then Int.ofNat m else _) = _
    rw [if_pos (by simpa using hb)]
  | negSucc m =>
    have hb : m < 9223372036854775808 := by
      have : Int.negSucc m = -(m : Int) - 1 := by omega
      omega
    show (if Nat.blt m 9223372036854775808 then Int.negSucc m else _) = _
    rw [if_pos (by simpa using hb)]

end Go.Vm
