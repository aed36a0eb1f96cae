/- Operation by operation, seventh part: aggregates and rows that are built, slices that are cut. -/
import Derived.Test.YtohmmcfniijjkaaMVmOps6
namespace Go.Vm
section
variable {P : Program} {im : Im} {loc : Loc} {sto : Sto} {fz : List Nat} {w : World}

theorem run_foldlM_push {α β : Type} (f : α → Sem β) (g : α → β) (h : ∀ a, (f a).run P w = .ok (g a) w) :
    ∀ (xs : List α) (acc : Array β), (xs.foldlM (fun bs a => bs.push <$> f a) acc).run P w = .ok (acc ++ (xs.map g).toArray) w
  | [], acc => by simp
  | x :: xs, acc => by
    simp only [List.foldlM_cons, Sem.run_bind, Sem.run_map, h, Result.andThen_ok, run_foldlM_push f g h xs]
    congr 1
    apply Array.ext'
    simp

theorem run_mapM {α β : Type} (f : α → Sem β) (g : α → β) (xs : Array α) (h : ∀ a, (f a).run P w = .ok (g a) w) : (xs.mapM f).run P w = .ok (xs.map g) w := by
  rw [Array.mapM_eq_foldlM, ← Array.foldlM_toList, run_foldlM_push f g h]
  congr 1
  apply Array.ext'
  simp

theorem run_foldlM_push' {α β : Type} (f : α → Sem β) (g : α → β) :
    ∀ (xs : List α), (∀ a ∈ xs, (f a).run P w = .ok (g a) w) → ∀ (acc : Array β), (xs.foldlM (fun bs a => bs.push <$> f a) acc).run P w = .ok (acc ++ (xs.map g).toArray) w
  | [], _, acc => by simp
  | x :: xs, h, acc => by
    simp only [List.foldlM_cons, Sem.run_bind, Sem.run_map, h x (by simp), Result.andThen_ok, run_foldlM_push' f g xs (fun a ha => h a (by simp [ha]))]
    congr 1
    apply Array.ext'
    simp

theorem run_mapM' {α β : Type} (f : α → Sem β) (g : α → β) (xs : Array α) (h : ∀ a ∈ xs, (f a).run P w = .ok (g a) w) : (xs.mapM f).run P w = .ok (xs.map g) w := by
  rw [Array.mapM_eq_foldlM, ← Array.foldlM_toList, run_foldlM_push' f g xs.toList (fun a ha => h a (by simpa using ha))]
  congr 1
  apply Array.ext'
  simp

theorem foldl_set (off : Nat) : ∀ (xs : List Value) (k : Nat) (cells : Array Value), off + k + xs.length ≤ cells.size →
    ((xs.zipIdx k).foldl (fun (cs : Array Value) (p : Value × Nat) => cs.setIfInBounds (off + p.2) p.1) cells).toList = spl (off + k) xs cells.toList
  | [], k, cells, _ => by simp [spl]
  | x :: xs, k, cells, h => by
    simp only [List.length_cons] at h
    rw [List.zipIdx_cons, List.foldl_cons, foldl_set off xs (k + 1) _ (by simp; omega)]
    apply List.ext_getElem?
    intro j
    rw [spl_get _ _ _ (by simp; omega), spl_get _ _ _ (by simp; omega)]
    simp only [List.length_cons, Array.toList_setIfInBounds]
    by_cases h1 : off + (k + 1) ≤ j ∧ j < off + (k + 1) + xs.length
    · rw [if_pos h1, if_pos ⟨by omega, by omega⟩]
      obtain ⟨m, hm⟩ : ∃ m, j - (off + k) = m + 1 := ⟨j - (off + k) - 1, by omega⟩
      rw [hm, show j - (off + (k + 1)) = m by omega]; simp
    · rw [if_neg h1]
      by_cases h2 : j = off + k
      · subst h2
        rw [if_pos ⟨Nat.le_refl _, by omega⟩, List.getElem?_set_self (by simp; omega)]
        simp
      · rw [if_neg (by omega), List.getElem?_set_ne (by omega)]

theorem fill_step {place : Nat → Option (Nat × Nat)} {i off size : Nat} {v : Value} {rest : List (Nat × Value)} {cells : Array Value} (hp : place i = some (off, size)) (hs : v.cells.size = size)
    (hf : off + size ≤ cells.size) : Instr.fill place cells ((i, v) :: rest) = Instr.fill place ⟨spl off v.cells.toList cells.toList⟩ rest := by
  have he : (v.cells.zipIdx.foldl (fun cs (c, j) => cs.setIfInBounds (off + j) c) cells) = ⟨spl off v.cells.toList cells.toList⟩ := by
    apply Array.ext'
    rw [← Array.foldl_toList, Array.toList_zipIdx]
    have := foldl_set off v.cells.toList 0 cells (by simp; omega)
    simpa using this
  simp only [Instr.fill, hp]
  rw [if_neg (by simp [hs]; omega), he]

inductive PartsRel (im : Im) (loc : Loc) (place : Nat → Option (Nat × Nat)) : List (Nat × Nat × PV) → List (Nat × Value) → Prop
  | nil : PartsRel im loc place [] []
  | cons (off sz i : Nat) (x : PV) (v : Value) (r : List (Nat × Nat × PV)) (s : List (Nat × Value)) (hp : place i = some (off, sz)) (hv : VR im loc x v) (h : PartsRel im loc place r s) :
      PartsRel im loc place ((off, sz, x) :: r) ((i, v) :: s)

theorem sim_fill {place : Nat → Option (Nat × Nat)} : ∀ {ps : List (Nat × Nat × PV)} {qs : List (Nat × Value)}, PartsRel im loc place ps qs → ∀ {cs cs' : List PV} {vs : Array Value},
    VRL im loc cs vs.toList → fillCells ps cs = some cs' → ∃ vs', Instr.fill place vs qs = some vs' ∧ VRL im loc cs' vs'.toList
  | _, _, .nil, cs, cs', vs, h, hf => by
    simp only [fillCells, Option.some.injEq] at hf
    subst hf
    exact ⟨vs, rfl, h⟩
  | _, _, .cons off sz i x v r s hp hv hr, cs, cs', vs, h, hf => by
    simp only [fillCells] at hf
    cases hst : x.stored with
    | none => rw [hst] at hf; cases hf
    | some ws =>
      rw [hst] at hf
      dsimp only at hf
      split at hf
      · rename_i hc
        simp only [Bool.and_eq_true, Nat.beq_eq, Nat.ble_eq] at hc
        obtain ⟨rfl, hone⟩ := stored_inv hst
        have hvc := hv.cells hone
        have hl := hvc.length
        have hcl := h.length
        simp only [Array.length_toList] at hl hcl
        rw [fill_step hp (by omega) (by omega)]
        exact sim_fill hr (VRL.spl hvc h) hf
      · cases hf

theorem placeOf_struct {t : TypeId} {fs : Array Field} (hu : P.underlying t = some (.struct fs)) (hf : ∀ f ∈ fs, (P.info? f.type).isSome = true) :
    (fs.mapM fun f => do pure (f.offset, ← sizeOf f.type) : Sem (Array (Nat × Nat))).run P w = .ok (fs.map fun f => (f.offset, P.cellsOf f.type)) w ∧
    (fun i => (fs.map fun f => (f.offset, P.cellsOf f.type))[i]?) = placeOf P t := by
  constructor
  · refine run_mapM' _ _ _ fun f hm => ?_
    obtain ⟨i, hi⟩ := Option.isSome_iff_exists.1 (hf f hm)
    simp [sizeOf, typeInfo, hi, Program.cellsOf]
  · funext i
    unfold placeOf
    rw [hu]
    cases hfi : fs[i]? with
    | none => simp [hfi]
    | some f =>
      obtain ⟨j, hj⟩ := Option.isSome_iff_exists.1 (hf f (Array.mem_of_getElem? hfi))
      simp [hfi, hj, Program.cellsOf]

theorem sim_build {t : TypeId} {zero cs : List PV} {ps : List (Nat × Nat × PV)} {qs : Array (Nat × Value)} (hz : zeroIs P t zero = true)
    (hty : (match P.underlying t with | some (.struct fs) => fs.all fun f => (P.info? f.type).isSome | some (.array _ e) => (P.info? e).isSome | _ => false) = true)
    (hr : PartsRel im loc (placeOf P t) ps qs.toList) (hf : fillCells ps zero = some cs) : ∃ v, (Instr.build t qs).run P w = .ok v w ∧ VR im loc (.agg cs) v := by
  unfold zeroIs at hz
  cases hi : P.info? t with
  | none => rw [hi] at hz; cases hz
  | some i =>
    rw [hi] at hz
    cases hzz : i.zero with
    | none => simp [hzz] at hz
    | some z =>
      simp [hzz] at hz
      have hzr : (zeroValue t).run P w = .ok z w := by simp [zeroValue, typeInfo, hi, hzz]
      obtain ⟨vs', h1, h2⟩ := sim_fill hr (cvalL_ok hz) hf
      refine ⟨.agg vs', ?_, .agg cs vs'.toList h2⟩
      cases hu : P.underlying t with
      | none => rw [hu] at hty; cases hty
      | some d =>
        rw [hu] at hty
        cases d <;> first | cases hty | skip
        case array n e =>
          obtain ⟨j, hj⟩ := Option.isSome_iff_exists.1 hty
          have hp : (fun i => some (i * j.size, j.size)) = placeOf P t := by funext i; unfold placeOf; rw [hu]; simp [hj]
          have hsz : (sizeOf e).run P w = .ok j.size w := by simp [sizeOf, typeInfo, hj]
          simp only [Instr.build, Sem.run_bind, hzr, run_underlying hu, Result.andThen_ok, hsz, hp, h1, Sem.run_pure]
        case struct fs =>
          have hall : ∀ f ∈ fs, (P.info? f.type).isSome = true := by
            intro f hf
            have := Array.all_eq_true.1 hty
            obtain ⟨k, hk, rfl⟩ := Array.mem_iff_getElem.1 hf
            exact this k hk
          obtain ⟨hm, hp⟩ := placeOf_struct (P := P) (w := w) hu hall
          simp only [Instr.build, Sem.run_bind, hzr, run_underlying hu, Result.andThen_ok, hm, hp, h1, Sem.run_pure]

/-! ### rows -/

theorem rows_zero {zero : Row} {zs : Array Value} (h : ∀ (j : Nat) (c : PV), zero[j]? = some c → ∃ v, plainVal c = some v ∧ zs[j]? = some v) (hl : zero.length = zs.size) (n : Nat) :
    RowsAt (fun k => ((Array.range (n * zs.size)).map (zs[· % zs.size]!))[k]?) 0 zs.size (List.replicate n zero) := by
  intro i r hr
  have hi : i < n := by
    rcases Nat.lt_or_ge i n with h | h
    · exact h
    · rw [List.getElem?_eq_none (by simpa using h)] at hr; cases hr
  rw [List.getElem?_replicate, if_pos hi] at hr
  injection hr with hr; subst hr
  refine ⟨hl, fun j c hc => ?_⟩
  obtain ⟨v, hv, hz⟩ := h j c hc
  refine ⟨v, hv, ?_⟩
  have hj : j < zs.size := (Array.getElem?_eq_some_iff.1 hz).1
  have hlt : i * zs.size + j < n * zs.size := by
    have := Nat.mul_le_mul_right zs.size (show i + 1 ≤ n from hi)
    rw [Nat.add_mul] at this; omega
  have hmod : (i * zs.size + j) % zs.size = j := by rw [Nat.mul_comm, Nat.mul_add_mod]; exact Nat.mod_eq_of_lt hj
  simp only [Nat.zero_add]
  rw [Array.getElem?_map, Array.getElem?_range, if_pos hlt]
  simp only [Option.map_some, hmod]
  rw [getElem!_pos zs j hj]
  have := (Array.getElem?_eq_some_iff.1 hz).2
  rw [this]

inductive RowParts (im : Im) (loc : Loc) : List (Nat × PV) → List (Nat × Value) → Prop
  | nil : RowParts im loc [] []
  | cons (i : Nat) (x : PV) (v : Value) (r : List (Nat × PV)) (s : List (Nat × Value)) (hv : VR im loc x v) (h : RowParts im loc r s) : RowParts im loc ((i, x) :: r) ((i, v) :: s)

theorem sim_fillRows {esz n : Nat} : ∀ {ps : List (Nat × PV)} {qs : List (Nat × Value)}, RowParts im loc ps qs → ∀ {rows rows' : List Row} {vs : Array Value},
    RowsAt (fun k => vs[k]?) 0 esz rows → vs.size = n * esz → rows.length = n → fillRows ps rows esz = some rows' →
    ∃ vs', Instr.fill (fun i => some (i * esz, esz)) vs qs = some vs' ∧ RowsAt (fun k => vs'[k]?) 0 esz rows' ∧ vs'.size = n * esz ∧ rows'.length = n
  | _, _, .nil, rows, rows', vs, h, hs, hn, hf => by
    simp only [fillRows, Option.some.injEq] at hf
    subst hf
    exact ⟨vs, rfl, h, hs, hn⟩
  | _, _, .cons i x v r s hv hr, rows, rows', vs, h, hs, hn, hf => by
    simp only [fillRows] at hf
    cases hst : x.storedPlain with
    | none => rw [hst] at hf; cases hf
    | some ws =>
      rw [hst] at hf
      dsimp only at hf
      split at hf
      · rename_i hc
        have hc1 : ws.length = esz := by simp only [Bool.and_eq_true, Nat.beq_eq] at hc; exact hc.1
        have hc2 : i < rows.length := by simp only [Bool.and_eq_true] at hc; simpa using hc.2
        obtain ⟨rfl, hpl⟩ := storedPlain_inv hst
        have hvc := hv.cells (fun c hc => plain_isOne (hpl c hc))
        have hl := hvc.length
        simp only [Array.length_toList] at hl
        have hmul := Nat.mul_le_mul_right esz (show i + 1 ≤ n by omega)
        rw [Nat.add_mul] at hmul
        rw [fill_step (place := fun i => some (i * esz, esz)) rfl (by omega) (by omega)]
        have hgi : rows[i]? = some rows[i] := List.getElem?_eq_getElem hc2
        have hil := (h i _ hgi).1
        have hst2 := h.store (get' := fun k => (⟨spl (i * esz) v.cells.toList vs.toList⟩ : Array Value)[k]?) (off := 0) (ws := x.cells) (vs := v.cells.toList) hgi (by omega) (hvc.plainVals hpl) (by simp; omega) (fun k => by
          simp only [List.getElem?_toArray]
          rw [spl_get _ _ _ (by simp; omega)]
          simp)
        have hspl : spl 0 x.cells rows[i] = x.cells := by
          unfold spl; rw [List.drop_eq_nil_of_le (by omega)]; simp
        rw [hspl] at hst2
        exact sim_fillRows hr hst2 (by simp only [List.size_toArray]; rw [spl_length _ _ _ (by simp; omega)]; simpa using hs) (by simpa using hn) hf
      · cases hf

end
end Go.Vm
