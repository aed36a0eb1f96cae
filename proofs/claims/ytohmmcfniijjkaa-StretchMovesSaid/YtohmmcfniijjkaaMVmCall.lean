/- What goes over the border of a pure call, and what comes back. -/
import Derived.Test.YtohmmcfniijjkaaMVmOpsA
namespace Go.Vm

/-- No block of the call's own. -/
def noLoc : Loc := fun _ => none

/-- The memory that nobody writes to, with some blocks more. -/
def grow (im : Im) (w : World) (bs : List Nat) : Im := fun b => match im b with
  | some o => some o
  | none => if bs.contains b then w.heap[b]? else none

theorem grow_le (im : Im) (w : World) (bs : List Nat) : ImLe im (grow im w bs) := fun b o h => by unfold grow; rw [h]

theorem grow_ok {im : Im} {w : World} {bs : List Nat} (h : ∀ b o, im b = some o → w.heap[b]? = some o) : ∀ b o, grow im w bs b = some o → w.heap[b]? = some o := by
  intro b o hb
  unfold grow at hb
  split at hb
  · rename_i o' ho; injection hb with hb; subst hb; exact h b _ ho
  · split at hb
    · exact hb
    · cases hb

theorem grow_at {im : Im} {w : World} {bs : List Nat} (h : ∀ b o, im b = some o → w.heap[b]? = some o) {b : Nat} (hb : b ∈ bs) : grow im w bs b = w.heap[b]? := by
  unfold grow
  split
  · rename_i o ho; exact (h b o ho).symm
  · rw [if_pos (by simpa using hb)]

theorem grow_new {im : Im} {w : World} {bs : List Nat} {b : Nat} {o : Obj} (h : grow im w bs b = some o) : im b = some o ∨ b ∈ bs := by
  unfold grow at h
  split at h
  · rename_i o' ho; injection h with h; subst h; exact .inl ho
  · split at h
    · rename_i hc; exact .inr (by simpa using hc)
    · cases h

/-- The model's blocks of some of the call's own. -/
def blksOf (loc : Loc) (sto : Sto) (tk : List Nat) : List Nat := tk.filterMap fun t => if (sto[t]?).any Blk.solid then (loc t).map (·.blk) else none

theorem mem_blksOf {loc : Loc} {sto : Sto} {tk : List Nat} {b : Nat} : b ∈ blksOf loc sto tk ↔ ∃ t li k, t ∈ tk ∧ loc t = some li ∧ sto[t]? = some k ∧ k.solid = true ∧ li.blk = b := by
  unfold blksOf
  rw [List.mem_filterMap]
  constructor
  · rintro ⟨t, ht, h⟩
    split at h
    · rename_i hs
      rw [Option.map_eq_some_iff] at h
      obtain ⟨li, hl, rfl⟩ := h
      cases hk : sto[t]? with
      | none => rw [hk] at hs; cases hs
      | some k => rw [hk] at hs; exact ⟨t, li, k, ht, hl, hk, hs, rfl⟩
    · cases h
  · rintro ⟨t, li, k, ht, hl, hk, hs, rfl⟩
    exact ⟨t, ht, by rw [hk, hl]; simp [hs]⟩

theorem solid_arr {e : Nat} {rows : List Row} (h : rows ≠ []) : (Blk.arr e rows).solid = true := by
  cases rows with
  | nil => exact absurd rfl h
  | cons _ _ => rfl

section
variable {im im' : Im} {loc : Loc} {sto : Sto} {w : World}

/-- Of a block that goes over: what lies there, where nobody writes to it. -/
def Over (im im' : Im) (loc : Loc) (sto : Sto) (w : World) (t : Nat) : Prop :=
  ∀ li, loc t = some li → ∃ k, sto[t]? = some k ∧ BR im loc w li k ∧ (k.solid = true → im' li.blk = w.heap[li.blk]?)

def BxOk (im' : Im) (loc : Loc) (bx : Nat → Option (List PV)) (t : Nat) : Prop :=
  ∀ li cs, loc t = some li → bx t = some cs → ∃ vs, VRL im' noLoc cs vs ∧ ∀ (j : Nat) (v : Value), vs[j]? = some v → imCell im' li.blk (li.sh + j) = some v

theorem imCell_of {b o : Nat} {cs : Array Value} {el : TypeId} {fr : Nat × Nat} (h : im b = some (.cells cs el fr)) : imCell im b o = cs[o]? := by
  unfold imCell; rw [h]

theorem RowsAt.rowsFrom {get : Nat → Option Value} {sh esz off len : Nat} {rows : List Row} (h : RowsAt get sh esz rows) : RowsAt get (sh + off * esz) esz ((rows.drop off).take len) := (h.drop off).take len

mutual
theorem exP_ok (hi : ImLe im im') {bx : Nat → Option (List PV)} {tb : Nat → List Nat} (hb : ∀ t, (∀ u, u ∈ tb t → Over im im' loc sto w u) → Over im im' loc sto w t → BxOk im' loc bx t) :
    ∀ {x y : PV} {v : Value}, (∀ t, t ∈ toks tb x → Over im im' loc sto w t) → VR im loc x v → exP sto bx x = some y → VR im' noLoc y v
  | .undef, y, v, _, _, h => by simp [exP] at h
  | .nul, y, v, _, _, h => by simp [exP] at h
  | .int k n, y, v, _, hv, h => by simp only [exP, Option.some.injEq] at h; subst h; rw [hv.int_inv]; exact .int _ _
  | .bool b, y, v, _, hv, h => by simp only [exP, Option.some.injEq] at h; subst h; rw [hv.bool_inv]; exact .bool _
  | .str b, y, v, _, hv, h => by simp only [exP, Option.some.injEq] at h; subst h; rw [hv.str_inv]; exact .str _
  | .agg cs, y, v, ht, hv, h => by
    simp only [exP, Option.map_eq_some_iff] at h
    obtain ⟨ys, hys, rfl⟩ := h
    obtain ⟨vs, rfl, hvr⟩ := hv.agg_inv
    exact .agg _ _ (exL_ok hi hb (fun t h => ht t (by simpa [toks] using h)) hvr hys)
  | .tup cs, y, v, ht, hv, h => by
    simp only [exP, Option.map_eq_some_iff] at h
    obtain ⟨ys, hys, rfl⟩ := h
    obtain ⟨vs, rfl, hvr⟩ := hv.tup_inv
    exact .tup _ _ (exL_ok hi hb (fun t h => ht t (by simpa [toks] using h)) hvr hys)
  | .sl e c rows, y, v, _, hv, h => by
    simp only [exP, Option.some.injEq] at h
    subst h
    obtain ⟨a, cap, rfl, h1, h2, h3⟩ := hv.sl_inv
    exact .sl e false rows a cap h1 (by simp) fun hne => let ⟨b, o, ha, hr⟩ := h3 hne; ⟨b, o, ha, hr.mono fun _ _ e => hi.cell e⟩
  | .own t e off len cap ex, y, v, ht, hv, h => by
    obtain ⟨li, a, cap', rfl, hl, h2, h3, h4, h5, h6, h7⟩ := hv.own_inv
    obtain ⟨k, hk, hbr, him⟩ := ht t (by simp [toks]) li hl
    simp only [exP, hk] at h
    cases k with
    | arr e' rows =>
      simp only [Option.some.injEq] at h
      subst h
      obtain ⟨b1, b2, b3⟩ := hbr
      have hlen : ((rows.drop off).take len).length = len := by simp; omega
      have he : e' = e := by rw [← b1, h2]
      subst he
      have := VR.sl (im := im') (loc := noLoc) e' false ((rows.drop off).take len) a cap' (by omega) (by simp) (fun hne => by
        have hrne : rows ≠ [] := by intro e; subst e; simp at hne
        obtain ⟨arr, el, ha1, ha2, ha3, hat⟩ := b3 hrne
        rcases h7 with h7 | ⟨_, rfl, _⟩
        · exfalso; apply hne; apply List.length_eq_zero_iff.1; omega
        · refine ⟨_, _, rfl, hat.rowsFrom.mono fun k v hkv => ?_⟩
          rw [imCell_of (by rw [him (solid_arr hrne)]; exact ha1)]; exact hkv)
      rwa [hlen] at this
    | _ => cases h
  | .ptr t e row off, y, v, ht, hv, h => by
    obtain ⟨li, hl, he, hn, rfl⟩ := hv.ptr_inv
    obtain ⟨k, hk, hbr, him⟩ := ht t (by simp [toks]) li hl
    simp only [exP, hk] at h
    cases k with
    | arr e' rows =>
      simp only [Option.map_eq_some_iff] at h
      obtain ⟨r, hr, rfl⟩ := h
      obtain ⟨b1, b2, b3⟩ := hbr
      have hrne : rows ≠ [] := by intro e; subst e; simp at hr
      obtain ⟨arr, el, ha1, ha2, ha3, hat⟩ := b3 hrne
      have hee : e' = e := by rw [← b1, he]
      subst hee
      obtain ⟨h1, h2⟩ := rowVals_rel (im := im') (loc := noLoc) hat hr
      exact .rptr r off li.blk (li.sh + row * e') _ h1 fun j v hj => by rw [imCell_of (by rw [him (solid_arr hrne)]; exact ha1)]; exact h2 j v hj
    | box cs =>
      dsimp only at h
      split at h
      · rename_i hrow
        have hrow : row = 0 := by simpa using hrow
        subst hrow
        rw [Option.map_eq_some_iff] at h
        obtain ⟨ys, hys, rfl⟩ := h
        obtain ⟨vs, h1, h2⟩ := hb t (fun u hu => ht u (by simp [toks, hu])) (ht t (by simp [toks])) li ys hl hys
        exact .rptr ys off li.blk (li.sh + 0 * e) vs h1 fun j v hj => by simpa using h2 j v hj
      · cases h
    | _ => cases h
  | .rptr cs off, y, v, ht, hv, h => by
    simp only [exP, Option.map_eq_some_iff] at h
    obtain ⟨ys, hys, rfl⟩ := h
    obtain ⟨b, o, vs, h1, h2, rfl⟩ := hv.rptr_inv
    exact .rptr ys off b o vs (exL_ok hi hb (fun t h => ht t (by simpa [toks] using h)) h1 hys) fun j v hj => hi.cell (h2 j v hj)
  | .mp t, y, v, _, _, h => by simp [exP] at h
  | .clo fn a b, y, v, ht, hv, h => by
    simp only [exP] at h
    cases ha : exL sto bx a with
    | none => rw [ha] at h; cases h
    | some a' =>
      cases hb' : exL sto bx b with
      | none => rw [ha, hb'] at h; cases h
      | some b' =>
        rw [ha, hb'] at h
        simp only [Option.some.injEq] at h
        subst h
        cases hv with
        | clo _ _ _ as bs h1 h2 =>
          exact .clo fn a' b' as bs (exL_ok hi hb (fun t h => ht t (by simp [toks, h])) h1 ha) (exL_ok hi hb (fun t h => ht t (by simp [toks, h])) h2 hb')
  | .nilf, y, v, _, hv, h => by
    simp only [exP, Option.some.injEq] at h
    subst h
    cases hv; exact .nilf
theorem exL_ok (hi : ImLe im im') {bx : Nat → Option (List PV)} {tb : Nat → List Nat} (hb : ∀ t, (∀ u, u ∈ tb t → Over im im' loc sto w u) → Over im im' loc sto w t → BxOk im' loc bx t) :
    ∀ {x y : List PV} {v : List Value}, (∀ t, t ∈ toksL tb x → Over im im' loc sto w t) → VRL im loc x v → exL sto bx x = some y → VRL im' noLoc y v
  | [], y, v, _, hv, h => by simp only [exL, Option.some.injEq] at h; subst h; cases hv; exact .nil
  | x :: xs, y, v, ht, hv, h => by
    simp only [exL] at h
    cases hx : exP sto bx x with
    | none => rw [hx] at h; cases h
    | some x' =>
      cases hxs : exL sto bx xs with
      | none => rw [hx, hxs] at h; cases h
      | some xs' =>
        rw [hx, hxs] at h
        simp only [Option.some.injEq] at h
        subst h
        cases hv with
        | cons _ u _ us h1 h2 =>
          exact .cons _ _ _ _ (exP_ok hi hb (fun t h => ht t (by simp [toksL, h])) h1 hx) (exL_ok hi hb (fun t h => ht t (by simp [toksL, h])) h2 hxs)
end

theorem exBx_ok (hi : ImLe im im') : ∀ (n : Nat) (t : Nat), (∀ u, u ∈ toksBx sto n t → Over im im' loc sto w u) → Over im im' loc sto w t → BxOk im' loc (exBx sto n) t
  | 0, t, _, _ => by intro li cs _ h; cases h
  | n + 1, t, ht, hto => by
    intro li cs hl h
    obtain ⟨k, hk, hbr, him⟩ := hto li hl
    simp only [exBx, hk] at h
    cases k with
    | box cells =>
      dsimp only at h
      obtain ⟨b1, b2, b3, vs, el, h4, h5, h6⟩ := hbr
      refine ⟨vs, exL_ok hi (fun t' => exBx_ok hi n t') (tb := toksBx sto n) (fun u hu => ht u (by simp [toksBx, hk, hu])) h6 h, fun j v hj => ?_⟩
      rw [imCell_of (by rw [him rfl]; exact h4), b3]
      simpa using hj
    | _ => cases h

end
end Go.Vm
