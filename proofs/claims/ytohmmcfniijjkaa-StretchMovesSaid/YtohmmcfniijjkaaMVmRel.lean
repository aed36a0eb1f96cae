/- What a pure value says of a value of the model, a block of the call's own of the memory. -/
import Derived.Test.YtohmmcfniijjkaaMVmDef
import Derived.Calls
import Derived.Below
namespace Go.Vm

/-- Where a block of the call's own lies: the model's block, where it begins there, the size of a row, how many rows, how many cells the model's block has. -/
structure LI where
  blk : Nat
  sh : Nat
  esz : Nat
  n : Nat
  sz : Nat

abbrev Im := Nat → Option Obj
abbrev Loc := Nat → Option LI

def imCell (im : Im) (b o : Nat) : Option Value :=
  match im b with
  | some (.cells c _ _) => c[o]?
  | _ => none

def plainVal : PV → Option Value
  | .int k n => some (.int k n)
  | .bool b => some (.bool b)
  | .str s => some (.string s)
  | _ => none

/-- Rows of plain cells, as 'get' finds them from a place on. -/
def RowsAt (get : Nat → Option Value) (sh esz : Nat) (rows : List Row) : Prop :=
  ∀ (i : Nat) (r : Row), rows[i]? = some r → r.length = esz ∧ ∀ (j : Nat) (c : PV), r[j]? = some c → ∃ v, plainVal c = some v ∧ get (sh + i * esz + j) = some v

mutual
inductive VR (im : Im) (loc : Loc) : PV → Value → Prop
  | undef (v : Value) : VR im loc .undef v
  | nul : VR im loc .nul Go.undef
  | int (k : IntKind) (n : Int) : VR im loc (.int k n) (.int k n)
  | bool (b : Bool) : VR im loc (.bool b) (.bool b)
  | str (s : ByteArray) : VR im loc (.str s) (.string s)
  | agg (cs : List PV) (vs : List Value) (h : VRL im loc cs vs) : VR im loc (.agg cs) (.agg ⟨vs⟩)
  | tup (cs : List PV) (vs : List Value) (h : VRL im loc cs vs) : VR im loc (.tup cs) (.tuple ⟨vs⟩)
  | sl (esz : Nat) (clip : Bool) (rows : List Row) (a : Option Addr) (cap : Nat) (hc : rows.length ≤ cap) (hk : clip = true → cap = rows.length)
      (h : rows ≠ [] → ∃ b o, a = some ⟨b, o, none⟩ ∧ RowsAt (imCell im b) o esz rows) : VR im loc (.sl esz clip rows) (.slice a rows.length cap)
  | own (t esz off len cap : Nat) (ex : Bool) (li : LI) (a : Option Addr) (cap' : Nat) (hl : loc t = some li) (he : li.esz = esz) (hn : off + cap ≤ li.n) (hc : len ≤ cap)
      (hx : cap ≤ cap') (hk : ex = true → cap' = cap)
      (h : cap' = 0 ∨ (li.n ≠ 0 ∧ a = some ⟨li.blk, li.sh + off * esz, none⟩ ∧ li.sh + (off + cap') * esz ≤ li.sz)) : VR im loc (.own t esz off len cap ex) (.slice a len cap')
  | ptr (t esz row off : Nat) (li : LI) (hl : loc t = some li) (he : li.esz = esz) (hn : row < li.n) :
      VR im loc (.ptr t esz row off) (.pointer (some ⟨li.blk, li.sh + row * esz + off, none⟩))
  | rptr (cs : List PV) (off b o : Nat) (vs : List Value) (h : VRL im loc cs vs) (hv : ∀ (j : Nat) (v : Value), vs[j]? = some v → imCell im b (o + j) = some v) :
      VR im loc (.rptr cs off) (.pointer (some ⟨b, o + off, none⟩))
  | mp (t : Nat) (li : LI) (hl : loc t = some li) : VR im loc (.mp t) (.map (some li.blk))
  | clo (fn : FuncId) (a b : List PV) (as bs : List Value) (ha : VRL im loc a as) (hb : VRL im loc b bs) : VR im loc (.clo fn a b) (.func (.func fn) ⟨as⟩ ⟨bs⟩)
  | nilf : VR im loc .nilf .nilFunc
inductive VRL (im : Im) (loc : Loc) : List PV → List Value → Prop
  | nil : VRL im loc [] []
  | cons (x : PV) (v : Value) (xs : List PV) (vs : List Value) (h : VR im loc x v) (hs : VRL im loc xs vs) : VRL im loc (x :: xs) (v :: vs)
end

def ImLe (im im' : Im) : Prop := ∀ b o, im b = some o → im' b = some o
def LocLe (loc loc' : Loc) : Prop := ∀ t li, loc t = some li → loc' t = some li

theorem ImLe.refl (im : Im) : ImLe im im := fun _ _ h => h
theorem ImLe.trans {a b c : Im} (h : ImLe a b) (k : ImLe b c) : ImLe a c := fun x o e => k x o (h x o e)
theorem LocLe.refl (loc : Loc) : LocLe loc loc := fun _ _ h => h
theorem LocLe.trans {a b c : Loc} (h : LocLe a b) (k : LocLe b c) : LocLe a c := fun x o e => k x o (h x o e)

theorem ImLe.cell {im im' : Im} (h : ImLe im im') {b o : Nat} {v : Value} (hc : imCell im b o = some v) : imCell im' b o = some v := by
  unfold imCell at hc ⊢
  cases hb : im b with
  | none => rw [hb] at hc; cases hc
  | some x => rw [hb] at hc; rw [h b x hb]; exact hc

theorem RowsAt.mono {g g' : Nat → Option Value} {sh esz : Nat} {rows : List Row} (h : RowsAt g sh esz rows) (hg : ∀ k v, g k = some v → g' k = some v) :
    RowsAt g' sh esz rows := by
  intro i r hr
  obtain ⟨h1, h2⟩ := h i r hr
  exact ⟨h1, fun j c hc => let ⟨v, hv, hw⟩ := h2 j c hc; ⟨v, hv, hg _ _ hw⟩⟩

mutual
theorem VR.mono {im im' : Im} {loc loc' : Loc} (hi : ImLe im im') (hl : LocLe loc loc') : ∀ {x : PV} {v : Value}, VR im loc x v → VR im' loc' x v
  | _, _, .undef v => .undef v
  | _, _, .nul => .nul
  | _, _, .int k n => .int k n
  | _, _, .bool b => .bool b
  | _, _, .str s => .str s
  | _, _, .agg cs vs h => .agg cs vs (VRL.mono hi hl h)
  | _, _, .tup cs vs h => .tup cs vs (VRL.mono hi hl h)
  | _, _, .sl esz clip rows a cap hc hk h => .sl esz clip rows a cap hc hk fun hne => let ⟨b, o, ha, hr⟩ := h hne; ⟨b, o, ha, hr.mono fun _ _ e => hi.cell e⟩
  | _, _, .own t esz off len cap ex li a cap' h1 h2 h3 h4 h5 h6 h7 => .own t esz off len cap ex li a cap' (hl _ _ h1) h2 h3 h4 h5 h6 h7
  | _, _, .ptr t esz row off li h1 h2 h3 => .ptr t esz row off li (hl _ _ h1) h2 h3
  | _, _, .rptr cs off b o vs h hv => .rptr cs off b o vs (VRL.mono hi hl h) fun j v e => hi.cell (hv j v e)
  | _, _, .mp t li h => .mp t li (hl _ _ h)
  | _, _, .clo fn a b as bs ha hb => .clo fn a b as bs (VRL.mono hi hl ha) (VRL.mono hi hl hb)
  | _, _, .nilf => .nilf
theorem VRL.mono {im im' : Im} {loc loc' : Loc} (hi : ImLe im im') (hl : LocLe loc loc') : ∀ {x : List PV} {v : List Value}, VRL im loc x v → VRL im' loc' x v
  | _, _, .nil => .nil
  | _, _, .cons x v xs vs h hs => .cons x v xs vs (VR.mono hi hl h) (VRL.mono hi hl hs)
end

theorem VRL.length {im : Im} {loc : Loc} : ∀ {x : List PV} {v : List Value}, VRL im loc x v → x.length = v.length
  | _, _, .nil => rfl
  | _, _, .cons _ _ _ _ _ hs => by simp [hs.length]

theorem VRL.get {im : Im} {loc : Loc} : ∀ {xs : List PV} {vs : List Value}, VRL im loc xs vs → ∀ (i : Nat) (x : PV), xs[i]? = some x → ∃ v, vs[i]? = some v ∧ VR im loc x v
  | _, _, .nil, i, x, h => by simp at h
  | _, _, .cons y v xs vs h hs, 0, x, e => by simp at e; subst e; exact ⟨v, rfl, h⟩
  | _, _, .cons y v xs vs h hs, i + 1, x, e => by
    obtain ⟨u, hu, hr⟩ := hs.get i x (by simpa using e)
    exact ⟨u, by simpa using hu, hr⟩

theorem VRL.append {im : Im} {loc : Loc} : ∀ {xs : List PV} {vs : List Value}, VRL im loc xs vs → ∀ {ys : List PV} {us : List Value}, VRL im loc ys us → VRL im loc (xs ++ ys) (vs ++ us)
  | _, _, .nil, _, _, k => k
  | _, _, .cons y v xs vs h hs, _, _, k => .cons _ _ _ _ h (hs.append k)

theorem VRL.take {im : Im} {loc : Loc} : ∀ {xs : List PV} {vs : List Value}, VRL im loc xs vs → ∀ n, VRL im loc (xs.take n) (vs.take n)
  | _, _, .nil, n => by simp; exact .nil
  | _, _, .cons y v xs vs h hs, 0 => .nil
  | _, _, .cons y v xs vs h hs, n + 1 => .cons _ _ _ _ h (hs.take n)

theorem VRL.drop {im : Im} {loc : Loc} : ∀ {xs : List PV} {vs : List Value}, VRL im loc xs vs → ∀ n, VRL im loc (xs.drop n) (vs.drop n)
  | _, _, .nil, n => by simp; exact .nil
  | _, _, .cons y v xs vs h hs, 0 => .cons _ _ _ _ h hs
  | _, _, .cons y v xs vs h hs, n + 1 => hs.drop n

/-- Cell by cell. -/
theorem VRL.of {im : Im} {loc : Loc} : ∀ (xs : List PV) (vs : List Value), xs.length = vs.length → (∀ (i : Nat) (x : PV) (v : Value), xs[i]? = some x → vs[i]? = some v → VR im loc x v) → VRL im loc xs vs
  | [], [], _, _ => .nil
  | x :: xs, v :: vs, hl, h => .cons x v xs vs (h 0 x v rfl rfl) (VRL.of xs vs (by simpa using hl) fun i a b ha hb => h (i + 1) a b (by simpa using ha) (by simpa using hb))

theorem VR.plain {im : Im} {loc : Loc} {x : PV} {v : Value} (h : VR im loc x v) (hp : x.plain = true) : plainVal x = some v := by
  cases h <;> first | rfl | cases hp

theorem VR.of_plain {im : Im} {loc : Loc} {x : PV} {v : Value} (h : plainVal x = some v) : VR im loc x v := by
  cases x <;> simp only [plainVal, Option.some.injEq] at h <;> first | (subst h; constructor) | cases h

theorem VR.cells {im : Im} {loc : Loc} {x : PV} {v : Value} (h : VR im loc x v) (hs : ∀ c ∈ x.cells, c.isOne = true) : VRL im loc x.cells v.cells.toList := by
  have one : ∀ {y : PV} {u : Value}, VR im loc y u → y.isOne = true → (∀ us, u ≠ .agg us) := by
    intro y u hy ho us e
    subst e
    cases hy <;> cases ho
  cases h with
  | agg cs vs h => exact h
  | undef v => have := hs .undef (by simp [PV.cells]); cases this
  | nul => have := hs .nul (by simp [PV.cells]); cases this
  | tup cs vs h => have := hs (.tup cs) (by simp [PV.cells]); cases this
  | int k n => exact .cons _ _ _ _ (.int k n) .nil
  | bool b => exact .cons _ _ _ _ (.bool b) .nil
  | str s => exact .cons _ _ _ _ (.str s) .nil
  | sl esz clip rows a cap hc hk h => exact .cons _ _ _ _ (.sl esz clip rows a cap hc hk h) .nil
  | own t esz off len cap ex li a cap' h1 h2 h3 h4 h5 h6 h7 => exact .cons _ _ _ _ (.own t esz off len cap ex li a cap' h1 h2 h3 h4 h5 h6 h7) .nil
  | ptr t esz row off li h1 h2 h3 => exact .cons _ _ _ _ (.ptr t esz row off li h1 h2 h3) .nil
  | rptr cs off b o vs h hv => exact .cons _ _ _ _ (.rptr cs off b o vs h hv) .nil
  | mp t li h => exact .cons _ _ _ _ (.mp t li h) .nil
  | clo fn a b as bs ha hb => exact .cons _ _ _ _ (.clo fn a b as bs ha hb) .nil
  | nilf => exact .cons _ _ _ _ .nilf .nil

/-- A value that may lie in one cell. -/
theorem VR.oneCell {im : Im} {loc : Loc} {x : PV} {v : Value} (h : VR im loc x v) (hs : x.isOne = true) : (∀ us, v ≠ .agg us) ∧ ∀ us, v ≠ .tuple us := by
  cases h <;> first | (simp [PV.isOne] at hs; done) | simp

/-! ### blocks -/

def valOf : PV → Option Value
  | .agg cs => (cs.mapM plainVal).map fun vs => .agg ⟨vs⟩
  | x => plainVal x

def MapRel : List (PV × PV) → List MapEntry → Prop
  | [], [] => True
  | (k, v) :: r, e :: r' => valOf k = some e.key ∧ valOf v = some e.val ∧ MapRel r r'
  | _, _ => False

def BR (im : Im) (loc : Loc) (w : World) (li : LI) : Blk → Prop
  | .arr e rows => li.esz = e ∧ li.n = rows.length ∧ (rows ≠ [] → ∃ cs el, w.heap[li.blk]? = some (.cells cs el (0, 0)) ∧ cs.size = li.sz ∧ li.sh + rows.length * e ≤ li.sz ∧ RowsAt (fun k => cs[k]?) li.sh e rows)
  | .box cells => li.esz = cells.length ∧ li.n = 1 ∧ li.sh = 0 ∧ ∃ vs el, w.heap[li.blk]? = some (.cells ⟨vs⟩ el (0, 0)) ∧ vs.length = li.sz ∧ VRL im loc cells vs
  | .map es => ∃ ents clock, w.heap[li.blk]? = some (.map ents clock) ∧ MapRel es ents.toList
  | .dead => True

theorem BR.mono {im im' : Im} {loc loc' : Loc} {w w' : World} {li : LI} {k : Blk} (h : BR im loc w li k) (hi : ImLe im im') (hl : LocLe loc loc')
    (hw : w'.heap[li.blk]? = w.heap[li.blk]?) : BR im' loc' w' li k := by
  cases k with
  | arr e rows => exact ⟨h.1, h.2.1, fun hne => let ⟨cs, el, h1, h2, h3⟩ := h.2.2 hne; ⟨cs, el, by rw [hw]; exact h1, h2, h3⟩⟩
  | box cells => obtain ⟨h1, h2, h3, vs, el, h4, h5, h6⟩ := h; exact ⟨h1, h2, h3, vs, el, by rw [hw]; exact h4, h5, h6.mono hi hl⟩
  | map es => obtain ⟨en, cl, h1, h2⟩ := h; exact ⟨en, cl, by rw [hw]; exact h1, h2⟩
  | dead => trivial

def Blk.solid : Blk → Bool
  | .dead => false
  | .arr _ [] => false
  | _ => true

theorem BR.lt {im : Im} {loc : Loc} {w : World} {li : LI} {k : Blk} (h : BR im loc w li k) (hs : k.solid = true) : li.blk < w.heap.size := by
  have get : ∀ {o : Obj}, w.heap[li.blk]? = some o → li.blk < w.heap.size := fun e => by
    rcases Nat.lt_or_ge li.blk w.heap.size with h | h
    · exact h
    · simp [Array.getElem?_eq_none h] at e
  cases k with
  | arr e rows =>
    cases rows with
    | nil => cases hs
    | cons r rs => obtain ⟨cs, el, h1, _⟩ := h.2.2 (by simp); exact get h1
  | box cells => obtain ⟨_, _, _, vs, el, h4, _⟩ := h; exact get h4
  | map es => obtain ⟨en, cl, h1, h2⟩ := h; exact get h1
  | dead => cases hs

/-- The blocks of the call's own, and the memory that nobody writes to, in a world. -/
structure SR (im : Im) (loc : Loc) (sto : Sto) (fz : List Nat) (w : World) : Prop where
  im_ok : ∀ b o, im b = some o → w.heap[b]? = some o
  blk : ∀ t li, loc t = some li → ∃ k, sto[t]? = some k ∧ BR im loc w li k
  excl : ∀ t u li lj k k', loc t = some li → loc u = some lj → sto[t]? = some k → sto[u]? = some k' → k.solid = true → k'.solid = true → li.blk = lj.blk → t = u
  free : ∀ t li k, loc t = some li → sto[t]? = some k → k.solid = true → has fz t = false → im li.blk = none

/-- The temporaries of a frame. -/
def ER (im : Im) (loc : Loc) (e : Env) (tmps : Array Value) : Prop := ∀ t, VR im loc (lk t e) (tmps.getD t Go.undef)

theorem ER.mono {im im' : Im} {loc loc' : Loc} (hi : ImLe im im') (hl : LocLe loc loc') {e : Env} {tmps : Array Value} (h : ER im loc e tmps) : ER im' loc' e tmps :=
  fun t => (h t).mono hi hl

theorem lk_cons (t s : Nat) (v : PV) (e : Env) : lk t ((s, v) :: e) = if s = t then v else lk t e := by
  simp only [lk]
  by_cases h : s = t <;> simp [h]

theorem ER.put {im : Im} {loc : Loc} {e : Env} {tmps : Array Value} (h : ER im loc e tmps) {d : Nat} {x : PV} {v : Value} (hd : d < tmps.size) (hv : VR im loc x v) :
    ER im loc ((d, x) :: e) (tmps.setIfInBounds d v) := by
  intro t
  rw [lk_cons]
  by_cases hdt : d = t
  · subst hdt
    simpa [hd] using hv
  · rw [if_neg hdt]
    have := h t
    simpa [Array.getElem?_setIfInBounds, hdt] using this

end Go.Vm
