/- Operation by operation, fourth part: aggregates, rows, slices. -/
import Derived.Test.YtohmmcfniijjkaaMVmOps3
import Derived.Deep.AppendSrc
import Derived.Deep.Upon
namespace Go.Vm

theorem RowsAt.tail {get : Nat → Option Value} {sh esz : Nat} {r : Row} {rs : List Row} (h : RowsAt get sh esz (r :: rs)) : RowsAt get (sh + esz) esz rs := by
  intro i x hx
  obtain ⟨h1, h2⟩ := h (i + 1) x (by simpa using hx)
  refine ⟨h1, fun j c hc => ?_⟩
  obtain ⟨v, hv, hg⟩ := h2 j c hc
  refine ⟨v, hv, ?_⟩
  rw [← hg]; congr 1; rw [Nat.add_mul]; omega

theorem RowsAt.drop {get : Nat → Option Value} {sh esz : Nat} {rows : List Row} (h : RowsAt get sh esz rows) (n : Nat) : RowsAt get (sh + n * esz) esz (rows.drop n) := by
  intro i x hx
  rw [List.getElem?_drop] at hx
  obtain ⟨h1, h2⟩ := h (n + i) x hx
  refine ⟨h1, fun j c hc => ?_⟩
  obtain ⟨v, hv, hg⟩ := h2 j c hc
  refine ⟨v, hv, ?_⟩
  rw [← hg]; congr 1; rw [Nat.add_mul]; omega

theorem RowsAt.take {get : Nat → Option Value} {sh esz : Nat} {rows : List Row} (h : RowsAt get sh esz rows) (n : Nat) : RowsAt get sh esz (rows.take n) := by
  intro i x hx
  have hi : i < n := by
    rcases Nat.lt_or_ge i n with h | h
    · exact h
    · rw [List.getElem?_eq_none (by simp; omega)] at hx; cases hx
  rw [List.getElem?_take_of_lt hi] at hx
  exact h i x hx

theorem RowsAt.append {get : Nat → Option Value} {sh esz : Nat} {xs ys : List Row} (h : RowsAt get sh esz xs) (k : RowsAt get (sh + xs.length * esz) esz ys) : RowsAt get sh esz (xs ++ ys) := by
  intro i r hr
  rcases Nat.lt_or_ge i xs.length with hi | hi
  · rw [List.getElem?_append_left hi] at hr; exact h i r hr
  · rw [List.getElem?_append_right hi] at hr
    obtain ⟨h1, h2⟩ := k _ r hr
    refine ⟨h1, fun j c hc => ?_⟩
    obtain ⟨v, hv, hg⟩ := h2 j c hc
    refine ⟨v, hv, ?_⟩
    rw [← hg]; congr 1
    have : i * esz = xs.length * esz + (i - xs.length) * esz := by rw [← Nat.add_mul]; congr 1; omega
    omega

theorem RowsAt.rowLen {get : Nat → Option Value} {sh esz : Nat} {rows : List Row} (h : RowsAt get sh esz rows) : ∀ r ∈ rows, r.length = esz := by
  intro r hr
  obtain ⟨i, hi, rfl⟩ := List.mem_iff_getElem.1 hr
  exact (h i _ (List.getElem?_eq_getElem hi)).1

theorem rowVals_length (r : Row) : (rowVals r).length = r.length := by simp [rowVals]

theorem flat_length {esz : Nat} : ∀ {rows : List Row}, (∀ r ∈ rows, r.length = esz) → (rows.flatMap rowVals).length = rows.length * esz
  | [], _ => by simp
  | r :: rs, h => by
    have ih := flat_length (esz := esz) (rows := rs) (fun x hx => h x (by simp [hx]))
    simp only [List.flatMap_cons, List.length_append, ih, rowVals_length, h r (by simp), List.length_cons, Nat.add_mul]
    omega

theorem RowsAt.flat {get : Nat → Option Value} {esz : Nat} : ∀ {rows : List Row} {sh : Nat}, RowsAt get sh esz rows → ∀ (j : Nat) (v : Value), (rows.flatMap rowVals)[j]? = some v → get (sh + j) = some v
  | [], _, _, j, v, h => by simp at h
  | r :: rs, sh, hr, j, v, h => by
    rw [List.flatMap_cons] at h
    have hl : (rowVals r).length = esz := by rw [rowVals_length]; exact hr.rowLen r (by simp)
    rcases Nat.lt_or_ge j esz with hj | hj
    · rw [List.getElem?_append_left (by omega)] at h
      have := (rowVals_rel (im := fun _ => none) (loc := fun _ => none) hr (i := 0) rfl).2 j v h
      simpa using this
    · rw [List.getElem?_append_right (by omega), hl] at h
      have := RowsAt.flat hr.tail (j - esz) v h
      rw [show sh + esz + (j - esz) = sh + j by omega] at this
      exact this

theorem RowsAt.ofFlat {esz : Nat} : ∀ {rows : List Row} {get : Nat → Option Value} {sh : Nat}, (∀ r ∈ rows, r.length = esz) → (∀ r ∈ rows, ∀ c ∈ r, c.plain = true) →
    (∀ (j : Nat) (v : Value), (rows.flatMap rowVals)[j]? = some v → get (sh + j) = some v) → RowsAt get sh esz rows
  | [], _, _, _, _, _ => by intro i r h; simp at h
  | r :: rs, get, sh, hl, hp, hg => by
    have hrl : (rowVals r).length = esz := by rw [rowVals_length]; exact hl r (by simp)
    have h1 : RowsAt get sh esz [r] := by
      intro i x hx
      cases i with
      | succ i => simp at hx
      | zero =>
        simp at hx; subst hx
        refine ⟨hl r (by simp), fun j c hc => ?_⟩
        have hcp := hp r (by simp) c (List.mem_of_getElem? hc)
        obtain ⟨v, hv⟩ : ∃ v, plainVal c = some v := by cases c <;> first | exact ⟨_, rfl⟩ | cases hcp
        refine ⟨v, hv, ?_⟩
        have hj : j < esz := by
          rcases Nat.lt_or_ge j r.length with h | h
          · have := hl r (by simp); omega
          · rw [List.getElem?_eq_none h] at hc; cases hc
        have := hg j v (by
          rw [List.flatMap_cons, List.getElem?_append_left (by omega)]
          simp [rowVals, hc, hv])
        simpa using this
    have h2 : RowsAt get (sh + esz) esz rs := RowsAt.ofFlat (fun x hx => hl x (by simp [hx])) (fun x hx => hp x (by simp [hx])) (fun j v hj => by
      have := hg (esz + j) v (by
        rw [List.flatMap_cons, List.getElem?_append_right (by omega), hrl, show esz + j - esz = j by omega]; exact hj)
      rwa [← Nat.add_assoc] at this)
    have := h1.append (ys := rs) (by simpa using h2)
    simpa using this

theorem RowsAt.plain {get : Nat → Option Value} {sh esz : Nat} {rows : List Row} (h : RowsAt get sh esz rows) : ∀ r ∈ rows, ∀ c ∈ r, c.plain = true := by
  intro r hr c hc
  obtain ⟨i, hi, rfl⟩ := List.mem_iff_getElem.1 hr
  obtain ⟨j, hj, rfl⟩ := List.mem_iff_getElem.1 hc
  obtain ⟨v, hv, _⟩ := (h i _ (List.getElem?_eq_getElem hi)).2 j _ (List.getElem?_eq_getElem hj)
  cases hh : rows[i][j] <;> rw [hh] at hv <;> first | rfl | cases hv

theorem flat_one {rows : List Row} (hp : ∀ r ∈ rows, ∀ c ∈ r, c.plain = true) : ∀ u ∈ rows.flatMap rowVals, u.oneCell' = true := by
  intro u hu
  obtain ⟨r, hr, hu⟩ := List.mem_flatMap.1 hu
  obtain ⟨c, hc, rfl⟩ := List.mem_map.1 hu
  have := hp r hr c hc
  cases c <;> first | rfl | cases this

section
variable {P : Program} {im : Im} {loc : Loc} {sto : Sto} {fz : List Nat} {w : World}

/-- What a slice holds: what append and copy read of it. -/
theorem src_of {esz : Nat} {y : PV} {u : Value} {new : List Row} {tx e' : TypeId} (hy : VR im loc y u) (hr : rowsOf sto esz y = some new) (hx : P.underlying tx = some (.slice e'))
    (im_ok : ∀ b o, im b = some o → w.heap[b]? = some o) (tok : ∀ t, t ∈ tokOf y → ∀ li, loc t = some li → ∃ k, sto[t]? = some k ∧ BR im loc w li k) :
    Src P esz tx u new.length (new.flatMap rowVals) w ∧ (∀ r ∈ new, r.length = esz) ∧ (∀ r ∈ new, ∀ c ∈ r, c.plain = true) := by
  unfold rowsOf at hr
  cases y with
  | sl e clip rows =>
    obtain ⟨a, cap, rfl, _, _, hrows⟩ := hy.sl_inv
    cases rows with
    | nil =>
      simp at hr; subst hr
      refine ⟨?_, by simp, by simp⟩
      cases a with
      | none => exact Src.ofNil w hx cap
      | some a => exact Src.ofSlice w hx a 0 cap [] (by simp) (by simp) (by simp)
    | cons r rs =>
      dsimp only at hr
      split at hr
      · rename_i he
        have he : e = esz := by simpa using he
        subst he
        injection hr with hr; subst hr
        obtain ⟨b, o, rfl, hat⟩ := hrows (by simp)
        refine ⟨Src.ofSlice w hx ⟨b, o, none⟩ _ cap _ (flat_length hat.rowLen) (fun j v hj => ?_) (flat_one hat.plain), hat.rowLen, hat.plain⟩
        rw [add_at]
        exact imCell_cell im_ok (hat.flat j v hj)
      · cases hr
  | own t e off len cap ex =>
    dsimp only at hr
    split at hr
    · rename_i he
      have he : e = esz := by simpa using he
      subst he
      obtain ⟨li, a, cap', rfl, hl, h2, h3, h4, h5, h6, h7⟩ := hy.own_inv
      obtain ⟨k, hk1, hb⟩ := tok t (by simp [tokOf]) li hl
      rw [hk1] at hr
      cases k with
      | arr e' rows =>
        simp only [Option.some.injEq] at hr
        subst hr
        obtain ⟨b1, b2, b3⟩ := hb
        have hlen : ((rows.drop off).take len).length = len := by simp; omega
        have hee : e' = e := by rw [← b1, h2]
        subst hee
        cases rows with
        | nil =>
          have : len = 0 := by simp at b2; omega
          subst this
          refine ⟨?_, by simp, by simp⟩
          simp
          cases a with
          | none => exact Src.ofNil w hx cap'
          | some a => exact Src.ofSlice w hx a 0 cap' [] (by simp) (by simp) (by simp)
        | cons r rs =>
          obtain ⟨arr, el, ha1, ha2, ha3, hat⟩ := b3 (by simp)
          have hsub := (hat.drop off).take len
          rcases h7 with h7 | ⟨h7, rfl, h9⟩
          · have : len = 0 := by omega
            subst this
            refine ⟨?_, by simp, by simp⟩
            simp
            cases a with
            | none => exact Src.ofNil w hx cap'
            | some a => exact Src.ofSlice w hx a 0 cap' [] (by simp) (by simp) (by simp)
          · rw [hlen]
            refine ⟨Src.ofSlice w hx ⟨li.blk, li.sh + off * e', none⟩ len cap' _ (by rw [flat_length hsub.rowLen, hlen]) (fun j v hj => ?_) (flat_one hsub.plain), hsub.rowLen, hsub.plain⟩
            rw [add_at]
            exact cell_of_block ha1 (hsub.flat j v hj)
      | _ => cases hr
    · cases hr
  | _ => cases hr

end
end Go.Vm
