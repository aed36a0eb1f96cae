/- Operation by operation, second part: addresses, reads, new blocks. -/
import Derived.Test.YtohmmcfniijjkaaMVmEff
namespace Go.Vm

section
variable {P : Program} {im : Im} {loc : Loc} {sto : Sto} {w : World}

theorem add_at (b o n : Nat) : (⟨b, o, none⟩ : Addr).add n = ⟨b, o + n, none⟩ := by
  unfold Addr.add; split
  · rename_i h; subst h; rfl
  · rfl

theorem VR.ptr_inv {t e r o : Nat} {v : Value} (h : VR im loc (.ptr t e r o) v) :
    ∃ li, loc t = some li ∧ li.esz = e ∧ r < li.n ∧ v = .pointer (some ⟨li.blk, li.sh + r * e + o, none⟩) := by
  cases h with | ptr _ _ _ _ li h1 h2 h3 => exact ⟨li, h1, h2, h3, rfl⟩

theorem VR.rptr_inv {cs : List PV} {off : Nat} {v : Value} (h : VR im loc (.rptr cs off) v) :
    ∃ b o vs, VRL im loc cs vs ∧ (∀ (j : Nat) (v : Value), vs[j]? = some v → imCell im b (o + j) = some v) ∧ v = .pointer (some ⟨b, o + off, none⟩) := by
  cases h with | rptr _ _ b o vs h1 h2 => exact ⟨b, o, vs, h1, h2, rfl⟩

theorem cell_of_block {b o : Nat} {cs : Array Value} {el : TypeId} {fr : Nat × Nat} {v : Value} (h : w.heap[b]? = some (.cells cs el fr)) (hc : cs[o]? = some v) :
    w.cell? ⟨b, o, none⟩ = some v := by simp [World.cell?, h, hc]

theorem imCell_cell (hk : ∀ b o, im b = some o → w.heap[b]? = some o) {b o : Nat} {v : Value} (h : imCell im b o = some v) : w.cell? ⟨b, o, none⟩ = some v := by
  unfold imCell at h
  cases hb : im b with
  | none => rw [hb] at h; cases h
  | some x =>
    rw [hb] at h
    cases x <;> first | exact cell_of_block (hk b _ hb) h | cases h

/-- The values of a row of plain cells. -/
def rowVals (r : Row) : List Value := r.map fun c => (plainVal c).getD Go.undef

theorem rowVals_rel {get : Nat → Option Value} {sh esz : Nat} {rows : List Row} (h : RowsAt get sh esz rows) {i : Nat} {r : Row} (hr : rows[i]? = some r) :
    VRL im loc r (rowVals r) ∧ ∀ (j : Nat) (v : Value), (rowVals r)[j]? = some v → get (sh + i * esz + j) = some v := by
  obtain ⟨_, hc⟩ := h i r hr
  constructor
  · refine VRL.of _ _ (by simp [rowVals]) fun j x v hx hv => ?_
    obtain ⟨u, hu, _⟩ := hc j x hx
    simp [rowVals, hx, hu] at hv
    subst hv
    exact VR.of_plain hu
  · intro j v hv
    cases hx : r[j]? with
    | none => simp [rowVals, hx] at hv
    | some x =>
      obtain ⟨u, hu, hg⟩ := hc j x hx
      simp [rowVals, hx, hu] at hv
      subst hv
      exact hg

theorem sim_load {agg : Option Nat} {t : TypeId} {p : PV} {u : Value} {r : Res} (hp : VR im loc p u) (ha : aggIs P t agg = true) (h : loadE sto agg p = some r)
    (hk : Known im loc sto w r) : ∃ v, (Instr.loadAt t u).run P w = .ok v w ∧ VR im loc r.v v ∧ r.news = [] ∧ r.wr = [] := by
  unfold loadE at h
  split at h
  · rename_i tk e row off
    obtain ⟨li, hl, he, hn, rfl⟩ := hp.ptr_inv
    split at h
    · rename_i e' rows hs
      split at h
      · rename_i cs hcs
        rw [Option.map_eq_some_iff] at h
        obtain ⟨x, hx, rfl⟩ := h
        obtain ⟨k, hk1, hb⟩ := hk.tok tk (.inl (by simp)) li hl
        rw [hs] at hk1; injection hk1 with hk1; subst hk1
        have hne : rows ≠ [] := by intro e; subst e; simp at hcs
        obtain ⟨h1, h2, h3⟩ := hb
        obtain ⟨arr, el, ha1, _, _, hrows⟩ := h3 hne
        obtain ⟨hv, hg⟩ := rowVals_rel (im := im) (loc := loc) hrows hcs
        have hee : e' = e := by rw [← h1, he]
        subst hee
        obtain ⟨v, hrun, hvr⟩ := loadVar_part (P := P) (w := w) (b := li.blk) (o := li.sh + row * e') ha hv
          (fun j v hj => cell_of_block ha1 (hg j v hj)) hx
        exact ⟨v, by simp only [Instr.loadAt, Instr.sureAddr, Sem.run_bind, Sem.run_pure, Result.andThen_ok, hrun], hvr, rfl, rfl⟩
      · cases h
    · rename_i cs hs
      split at h
      · rename_i hrow
        have hrow : row = 0 := by simpa using hrow
        subst hrow
        rw [Option.map_eq_some_iff] at h
        obtain ⟨x, hx, rfl⟩ := h
        obtain ⟨k, hk1, hb⟩ := hk.tok tk (.inl (by simp)) li hl
        rw [hs] at hk1; injection hk1 with hk1; subst hk1
        obtain ⟨h1, h2, h3, vs, el, h4, h5, h6⟩ := hb
        obtain ⟨v, hrun, hvr⟩ := loadVar_part (P := P) (w := w) (b := li.blk) (o := li.sh + 0 * e) ha h6
          (fun j v hj => cell_of_block h4 (by simpa [h3] using hj)) hx
        exact ⟨v, by simp only [Instr.loadAt, Instr.sureAddr, Sem.run_bind, Sem.run_pure, Result.andThen_ok, hrun], hvr, rfl, rfl⟩
      · cases h
    · cases h
  · rename_i cs off
    obtain ⟨b, o, vs, h1, h2, rfl⟩ := hp.rptr_inv
    rw [Option.map_eq_some_iff] at h
    obtain ⟨x, hx, rfl⟩ := h
    obtain ⟨v, hrun, hvr⟩ := loadVar_part (P := P) (w := w) (b := b) (o := o) ha h1 (fun j v hj => imCell_cell hk.im_ok (h2 j v hj)) hx
    exact ⟨v, by simp only [Instr.loadAt, Instr.sureAddr, Sem.run_bind, Sem.run_pure, Result.andThen_ok, hrun], hvr, rfl, rfl⟩
  · cases h

/-- A new block of cells, a pointer to it. -/
theorem sim_newbox {cs : List PV} {vs : List Value} {el : TypeId} {r : Res} (h : VRL im loc cs vs) (hr : r = { v := .ptr sto.length cs.length 0 0, news := [.box cs] }) (hk : Known im loc sto w r) :
    ∃ loc', VR im loc' r.v (.pointer (some ⟨w.heap.size, 0, none⟩)) ∧ Eff im loc sto w r im loc' { w with heap := w.heap.push (.cells ⟨vs⟩ el) } := by
  subst hr
  let li : LI := ⟨w.heap.size, 0, cs.length, 1, vs.length⟩
  refine ⟨loc.set sto.length li, ?_, ?_⟩
  · have := VR.ptr (im := im) (loc := loc.set sto.length li) sto.length cs.length 0 0 li (Loc.set_same _ _ _) rfl (Nat.zero_lt_one)
    simpa [li] using this
  · refine Eff.new hk li rfl rfl rfl rfl rfl rfl rfl ⟨rfl, rfl, rfl, vs, el, ?_, rfl, h.mono (.refl _) (Loc.le_set li (by have := hk.fresh 0 (by simp); simpa using this))⟩
    simp [li]

theorem sim_fadr {off : Nat} {t : TypeId} {f : Nat} {fs : Array Field} {g : Field} {i : TypeInfo} {p z : PV} {u : Value} (hp : VR im loc p u)
    (hu : P.underlying t = some (.struct fs)) (hf : fs[f]? = some g) (ho : g.offset = off) (hi : P.info? g.type = some i) (hz : i.size ≠ 0)
    (h : (match (generalizing := false) p with | .ptr t s r o => some (PV.ptr t s r (o + off)) | .rptr c o => some (PV.rptr c (o + off)) | _ => none) = some z) :
    ∃ v, (Instr.fieldAt t u f).run P w = .ok v w ∧ VR im loc z v := by
  have hsz : (sizeOf g.type).run P w = .ok i.size w := by simp [sizeOf, typeInfo, hi]
  cases p with
  | ptr tk s r o =>
    injection h with h; subst h
    obtain ⟨li, hl, he, hn, rfl⟩ := hp.ptr_inv
    refine ⟨_, ?_, .ptr tk s r (o + off) li hl he hn⟩
    simp [Instr.fieldAt, run_underlying hu, hf, Instr.sureAddr, fieldPlace, hsz, hz, add_at, ho, Nat.add_assoc]
  | rptr cs o =>
    injection h with h; subst h
    obtain ⟨b, o', vs, h1, h2, rfl⟩ := hp.rptr_inv
    refine ⟨_, ?_, .rptr cs (o + off) b o' vs h1 h2⟩
    simp [Instr.fieldAt, run_underlying hu, hf, Instr.sureAddr, fieldPlace, hsz, hz, add_at, ho, Nat.add_assoc]
  | _ => cases h

theorem asNat_inv {x : PV} {n : Nat} {u : Value} (hx : VR im loc x u) (h : asNat x = some n) : ∃ k, u = .int k (n : Int) := by
  unfold asNat at h
  split at h
  · rename_i k m
    obtain rfl := hx.int_inv
    split at h
    · rename_i m'; injection h with h; subst h; exact ⟨k, rfl⟩
    · cases h
  · cases h

theorem sim_iadra {n esz j : Nat} {t e : TypeId} {p z : PV} {u : Value} {k : IntKind} (hp : VR im loc p u)
    (hu : P.underlying t = some (.array n e)) (hs : szIs P e esz = true) (hj : j < n)
    (h : (match (generalizing := false) p with | .ptr t s r o => some (PV.ptr t s r (o + j * esz)) | .rptr c o => some (PV.rptr c (o + j * esz)) | _ => none) = some z) :
    ∃ v, (Instr.indexAt t u (.int k j)).run P w = .ok v w ∧ VR im loc z v := by
  have hsz := szIs_run (P := P) (w := w) hs
  cases p with
  | ptr tk s r o =>
    injection h with h; subst h
    obtain ⟨li, hl, he, hn, rfl⟩ := hp.ptr_inv
    refine ⟨_, ?_, .ptr tk s r (o + j * esz) li hl he hn⟩
    simp [Instr.indexAt, asIntOf, run_underlying hu, Instr.sureAddr, hsz, add_at, Nat.add_assoc]
    intro h; omega
  | rptr cs o =>
    injection h with h; subst h
    obtain ⟨b, o', vs, h1, h2, rfl⟩ := hp.rptr_inv
    refine ⟨_, ?_, .rptr cs (o + j * esz) b o' vs h1 h2⟩
    simp [Instr.indexAt, asIntOf, run_underlying hu, Instr.sureAddr, hsz, add_at, Nat.add_assoc]
    intro h; omega
  | _ => cases h

theorem VR.sl_inv {esz : Nat} {clip : Bool} {rows : List Row} {v : Value} (h : VR im loc (.sl esz clip rows) v) :
    ∃ a cap, v = .slice a rows.length cap ∧ rows.length ≤ cap ∧ (clip = true → cap = rows.length) ∧ (rows ≠ [] → ∃ b o, a = some ⟨b, o, none⟩ ∧ RowsAt (imCell im b) o esz rows) := by
  cases h with | sl _ _ _ a cap hc hk h => exact ⟨a, cap, rfl, hc, hk, h⟩

theorem VR.own_inv {t esz off len cap : Nat} {ex : Bool} {v : Value} (h : VR im loc (.own t esz off len cap ex) v) :
    ∃ li a cap', v = .slice a len cap' ∧ loc t = some li ∧ li.esz = esz ∧ off + cap ≤ li.n ∧ len ≤ cap ∧ cap ≤ cap' ∧ (ex = true → cap' = cap) ∧
      (cap' = 0 ∨ (li.n ≠ 0 ∧ a = some ⟨li.blk, li.sh + off * esz, none⟩ ∧ li.sh + (off + cap') * esz ≤ li.sz)) := by
  cases h with | own _ _ _ _ _ _ li a cap' h1 h2 h3 h4 h5 h6 h7 => exact ⟨li, a, cap', rfl, h1, h2, h3, h4, h5, h6, h7⟩

theorem run_indexAt_slice {t e : TypeId} {esz j len cap b o : Nat} {k : IntKind} (hu : P.underlying t = some (.slice e)) (hs : szIs P e esz = true) (hj : j < len) :
    (Instr.indexAt t (.slice (some ⟨b, o, none⟩) len cap) (.int k j)).run P w = .ok (.pointer (some ⟨b, o + j * esz, none⟩)) w := by
  have hsz := szIs_run (P := P) (w := w) hs
  have hlt : ¬ (len ≤ j) := by omega
  simp [Instr.indexAt, asIntOf, run_underlying hu, hsz, add_at]
  intro h; exact absurd h hlt

theorem sim_iadr {esz n : Nat} {t e : TypeId} {x z : PV} {u : Value} {k : IntKind} (hx : VR im loc x u)
    (hu : P.underlying t = some (.slice e)) (hs : szIs P e esz = true)
    (h : (match (generalizing := false) x with
      | .sl s _ rows => match rows[n]? with
        | some cs => if Nat.beq s esz then some (PV.rptr cs 0) else none
        | none => none
      | .own t s off len _ _ => if Nat.blt n len && Nat.beq s esz then some (PV.ptr t s (off + n) 0) else none
      | _ => none) = some z) :
    ∃ v, (Instr.indexAt t u (.int k n)).run P w = .ok v w ∧ VR im loc z v := by
  cases x with
  | sl s clip rows =>
    dsimp only at h
    cases hcs : rows[n]? with
    | none => rw [hcs] at h; cases h
    | some cs =>
      rw [hcs] at h
      dsimp only at h
      split at h
      · rename_i hse
        have hse : s = esz := by simpa using hse
        subst hse
        injection h with h; subst h
        obtain ⟨a, cap, rfl, _, _, hr⟩ := hx.sl_inv
        have hne : rows ≠ [] := by intro e; subst e; simp at hcs
        obtain ⟨b, o, rfl, hrows⟩ := hr hne
        have hn : n < rows.length := by
          rcases Nat.lt_or_ge n rows.length with h | h
          · exact h
          · rw [List.getElem?_eq_none h] at hcs; cases hcs
        refine ⟨_, run_indexAt_slice hu hs hn, ?_⟩
        obtain ⟨hv, hg⟩ := rowVals_rel (im := im) (loc := loc) hrows hcs
        have := VR.rptr (im := im) (loc := loc) cs 0 b (o + n * s) (rowVals cs) hv hg
        simpa using this
      · cases h
  | own tk s off len cap ex =>
    dsimp only at h
    split at h
    · rename_i hc
      simp only [Bool.and_eq_true] at hc
      have hn : n < len := by simpa using hc.1
      have hse : s = esz := by simpa using hc.2
      subst hse
      injection h with h; subst h
      obtain ⟨li, a, cap', rfl, hl, he, hoff, hlen, hcap, _, hd⟩ := hx.own_inv
      rcases hd with hd | ⟨hne, rfl, _⟩
      · omega
      · refine ⟨_, run_indexAt_slice hu hs hn, ?_⟩
        have := VR.ptr (im := im) (loc := loc) tk s (off + n) 0 li hl he (by omega)
        rw [show li.sh + (off + n) * s + 0 = li.sh + off * s + n * s by rw [Nat.add_mul]; omega] at this
        exact this
    · cases h
  | _ => cases h

/-! ### slicing -/

theorem run_sliceBound {x k : Nat} {kd : IntKind} {code : BoundsCode} (h : x ≤ k) : (Instr.sliceBound (.int kd x) k code).run P w = .ok x w := by
  have : (0 : Int) ≤ (x : Int) ∧ (x : Int) ≤ (k : Int) := by omega
  simp [Instr.sliceBound, asIntOf, this]

/-- The bounds, as values. -/
def BoundV (v : Option Value) (n : Option Nat) : Prop :=
  match v, n with
  | none, none => True
  | some v, some n => ∃ k, v = .int k (n : Int)
  | _, _ => False

theorem run_sliceBounds {len cap : Nat} {lo hi mx : Option Nat} {vl vh vm : Option Value} (h1 : BoundV vl lo) (h2 : BoundV vh hi) (h3 : BoundV vm mx)
    (hm : mx.isSome = true → hi.isSome = true) (hle : lo.getD 0 ≤ hi.getD len) (hhm : hi.isSome = true → hi.getD len ≤ mx.getD cap) (hmc : mx.getD cap ≤ cap) :
    (Instr.sliceBounds true len cap vl vh vm).run P w = .ok (lo.getD 0, hi.getD len, mx.getD cap) w := by
  cases mx with
  | none =>
    cases vm with
    | some v => exact h3.elim
    | none =>
      cases hi with
      | none =>
        cases vh with
        | some v => exact h2.elim
        | none =>
          cases lo with
          | none =>
            cases vl with
            | some v => exact h1.elim
            | none => simp [Instr.sliceBounds]
          | some l =>
            cases vl with
            | none => exact h1.elim
            | some v =>
              obtain ⟨k, rfl⟩ := h1
              simp only [Option.getD_some, Option.getD_none] at hle
              simp [Instr.sliceBounds, run_sliceBound hle]
      | some hh =>
        cases vh with
        | none => exact h2.elim
        | some v =>
          obtain ⟨k, rfl⟩ := h2
          simp only [Option.getD_some, Option.getD_none, Option.isSome_some, true_implies] at hle hhm
          cases lo with
          | none =>
            cases vl with
            | some v => exact h1.elim
            | none => simp [Instr.sliceBounds, run_sliceBound hhm]
          | some l =>
            cases vl with
            | none => exact h1.elim
            | some v =>
              obtain ⟨k, rfl⟩ := h1
              simp only [Option.getD_some] at hle
              simp [Instr.sliceBounds, run_sliceBound hhm, run_sliceBound hle]
  | some m =>
    cases vm with
    | none => exact h3.elim
    | some v =>
      obtain ⟨k, rfl⟩ := h3
      cases hi with
      | none => simp at hm
      | some hh =>
        cases vh with
        | none => exact h2.elim
        | some v =>
          obtain ⟨k, rfl⟩ := h2
          simp only [Option.getD_some, Option.isSome_some, true_implies] at hle hhm hmc
          cases lo with
          | none =>
            cases vl with
            | some v => exact h1.elim
            | none => simp [Instr.sliceBounds, run_sliceBound hhm, run_sliceBound hmc]
          | some l =>
            cases vl with
            | none => exact h1.elim
            | some v =>
              obtain ⟨k, rfl⟩ := h1
              simp only [Option.getD_some] at hle
              simp [Instr.sliceBounds, run_sliceBound hhm, run_sliceBound hle, run_sliceBound hmc]

end
end Go.Vm
