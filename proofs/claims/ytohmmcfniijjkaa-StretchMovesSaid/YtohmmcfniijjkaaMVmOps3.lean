/- Operation by operation, third part: stores, aggregates. -/
import Derived.Test.YtohmmcfniijjkaaMVmOps2
import Derived.Laws.CopyRow
namespace Go.Vm

def spl {α : Type} (off : Nat) (new old : List α) : List α := old.take off ++ new ++ old.drop (off + new.length)

theorem spl_get {α : Type} (off : Nat) (new old : List α) (h : off + new.length ≤ old.length) (j : Nat) :
    (spl off new old)[j]? = if off ≤ j ∧ j < off + new.length then new[j - off]? else old[j]? := by
  unfold spl
  have hl : (old.take off).length = off := by simp; omega
  by_cases h1 : j < off
  · rw [if_neg (by omega), List.append_assoc, List.getElem?_append_left (by omega), List.getElem?_take_of_lt h1]
  · by_cases h2 : j < off + new.length
    · rw [if_pos ⟨by omega, h2⟩, List.append_assoc, List.getElem?_append_right (by omega), hl, List.getElem?_append_left (by omega)]
    · rw [if_neg (by omega), List.getElem?_append_right (by simp; omega), List.getElem?_drop]
      congr 1
      simp; omega

theorem spl_length {α : Type} (off : Nat) (new old : List α) (h : off + new.length ≤ old.length) : (spl off new old).length = old.length := by
  unfold spl; simp; omega

theorem VRL.spl {im : Im} {loc : Loc} {off : Nat} {xs ys : List PV} {vs us : List Value} (h : VRL im loc xs vs) (k : VRL im loc ys us) :
    VRL im loc (Vm.spl off xs ys) (Vm.spl off vs us) := by
  unfold Vm.spl
  rw [← h.length]
  exact ((k.take off).append h).append (k.drop _)

theorem VRL.plainVals {im : Im} {loc : Loc} : ∀ {xs : List PV} {vs : List Value}, VRL im loc xs vs → (∀ c ∈ xs, c.plain = true) →
    ∀ (j : Nat) (c : PV), xs[j]? = some c → ∃ v, plainVal c = some v ∧ vs[j]? = some v := by
  intro xs vs h hp j c hc
  obtain ⟨v, hv, hr⟩ := h.get j c hc
  exact ⟨v, hr.plain (hp c (List.mem_of_getElem? hc)), hv⟩

theorem row_apart {i row esz j off n sh : Nat} (hne : i ≠ row) (hj : j < esz) (hn : off + n ≤ esz) :
    ¬ (sh + row * esz + off ≤ sh + i * esz + j ∧ sh + i * esz + j < sh + row * esz + off + n) := by
  rcases Nat.lt_or_gt_of_ne hne with h | h
  · have := Nat.mul_le_mul_right esz (show i + 1 ≤ row from h)
    rw [Nat.add_mul] at this
    omega
  · have := Nat.mul_le_mul_right esz (show row + 1 ≤ i from h)
    rw [Nat.add_mul] at this
    omega

theorem RowsAt.store {get get' : Nat → Option Value} {sh esz row off : Nat} {rows : List Row} {cs ws : List PV} {vs : List Value}
    (h : RowsAt get sh esz rows) (hr : rows[row]? = some cs) (hle : off + ws.length ≤ cs.length)
    (hw : ∀ (j : Nat) (c : PV), ws[j]? = some c → ∃ v, plainVal c = some v ∧ vs[j]? = some v) (hl : vs.length = ws.length)
    (hg : ∀ k, get' k = if sh + row * esz + off ≤ k ∧ k < sh + row * esz + off + vs.length then vs[k - (sh + row * esz + off)]? else get k) :
    RowsAt get' sh esz (rows.set row (spl off ws cs)) := by
  intro i r hi
  rw [List.getElem?_set] at hi
  have hrow : row < rows.length := by
    rcases Nat.lt_or_ge row rows.length with h | h
    · exact h
    · rw [List.getElem?_eq_none h] at hr; cases hr
  obtain ⟨hcl, hcc⟩ := h row cs hr
  split at hi
  · rename_i e
    subst e
    injection hi with hi; subst hi
    refine ⟨by rw [spl_length _ _ _ hle]; exact hcl, fun j c hc => ?_⟩
    rw [spl_get _ _ _ hle] at hc
    rw [hg]
    split at hc
    · rename_i hj
      obtain ⟨v, hv, hvv⟩ := hw _ _ hc
      refine ⟨v, hv, ?_⟩
      rw [if_pos ⟨by omega, by omega⟩, ← hvv]
      congr 1
      omega
    · rename_i hj
      obtain ⟨v, hv, hvv⟩ := hcc j c hc
      refine ⟨v, hv, ?_⟩
      rw [if_neg (by omega)]
      exact hvv
  · rename_i hne
    obtain ⟨hrl, hrc⟩ := h i r hi
    refine ⟨hrl, fun j c hc => ?_⟩
    obtain ⟨v, hv, hvv⟩ := hrc j c hc
    refine ⟨v, hv, ?_⟩
    have hj : j < esz := by
      rcases Nat.lt_or_ge j r.length with h | h
      · omega
      · rw [List.getElem?_eq_none h] at hc; cases hc
    rw [hg, if_neg (row_apart (fun e => hne e.symm) hj (by omega))]
    exact hvv

section
variable {P : Program} {im : Im} {loc : Loc} {sto : Sto} {fz : List Nat} {w : World}

theorem setRow_heap_eq {g : Nat} {cur cs : Array Value} {t : TypeId} (hg : w.heap[g]? = some (.cells cur t (0, 0))) :
    (w.setRow g cs).heap = w.heap.setIfInBounds g (.cells cs t (0, 0)) := by
  have hlt : g < w.heap.size := (Array.getElem?_eq_some_iff.1 hg).1
  have hv : w.heap[g] = .cells cur t (0, 0) := (Array.getElem?_eq_some_iff.1 hg).2
  unfold World.setRow
  apply Array.ext
  · simp
  · intro k h1 h2
    rw [Array.getElem_setIfInBounds]
    simp only [Array.getElem_modify]
    split
    · rename_i hk; subst hk; simp [hv]
    · rfl

theorem oneCell'_of {v : Value} (h : (∀ us, v ≠ .agg us) ∧ ∀ us, v ≠ .tuple us) : v.oneCell' = true := by
  cases v <;> first | rfl | exact absurd rfl (h.1 _) | exact absurd rfl (h.2 _)

theorem VRL.one : ∀ {xs : List PV} {vs : List Value}, VRL im loc xs vs → (∀ c ∈ xs, c.isOne = true) → ∀ v ∈ vs, v.oneCell' = true
  | _, _, .nil, _, _, hv => by cases hv
  | _, _, .cons x u xs vs h hs, ho, v, hv => by
    cases hv with
    | head => exact oneCell'_of (h.oneCell (ho x (by simp)))
    | tail _ hm => exact VRL.one hs (fun c hc => ho c (by simp [hc])) v hm

theorem plain_isOne {c : PV} (h : c.plain = true) : c.isOne = true := by cases c <;> first | rfl | cases h

theorem stored_inv {v : PV} {ws : List PV} (h : v.stored = some ws) : ws = v.cells ∧ ∀ c ∈ v.cells, c.isOne = true := by
  unfold PV.stored at h
  split at h
  · rename_i ha; injection h with h; exact ⟨h.symm, by simpa using ha⟩
  · cases h
theorem storedPlain_inv {v : PV} {ws : List PV} (h : v.storedPlain = some ws) : ws = v.cells ∧ ∀ c ∈ v.cells, c.plain = true := by
  unfold PV.storedPlain at h
  split at h
  · rename_i ha; injection h with h; exact ⟨h.symm, by simpa using ha⟩
  · cases h

/-- The model's own store into a block of cells. -/
theorem run_storeAt {t el : TypeId} {sz b o : Nat} {x : Value} {cur : Array Value} (hs : szIs P t sz = true) (hb : w.heap[b]? = some (.cells cur el (0, 0)))
    (hx : x.cells.size = sz) (hle : o + sz ≤ cur.size) (h1 : ∀ v ∈ x.cells.toList, v.oneCell' = true) :
    (Instr.storeAt t (.pointer (some ⟨b, o, none⟩)) x).run P w = .ok () (w.setRow b (spl o x.cells.toList cur.toList).toArray) := by
  have := run_storeCells_at P b o el x.cells.toList 0 cur w hb (by simp; omega) h1
  simp only [Instr.storeAt, Instr.sureAddr, Sem.run_bind, Sem.run_pure, Result.andThen_ok, storeVar, szIs_run hs, hx, ne_eq, not_true_eq_false, if_false]
  simpa [spl] using this

theorem sim_store {t : TypeId} {sz : Nat} {p v : PV} {u x : Value} {r : Res} (hp : VR im loc p u) (hv : VR im loc v x) (hs : szIs P t sz = true)
    (h : storeE sto fz sz v p = some r) (hk : Known im loc sto w r) :
    ∃ w', (Instr.storeAt t u x).run P w = .ok () w' ∧ Eff im loc sto w r im loc w' ∧ r.v = .undef := by
  unfold storeE at h
  cases p with
  | ptr tk e row off =>
    dsimp only at h
    obtain ⟨li, hl, he, hn, rfl⟩ := hp.ptr_inv
    cases hsto : sto[tk]? with
    | none => rw [hsto] at h; cases h
    | some blk =>
      rw [hsto] at h
      cases blk with
      | arr e' rows =>
        dsimp only at h
        cases hcs : rows[row]? with
        | none => rw [hcs] at h; cases h
        | some cs =>
          cases hw : v.storedPlain with
          | none => rw [hcs, hw] at h; cases h
          | some ws =>
            rw [hcs, hw] at h
            dsimp only at h
            split at h
            · rename_i hc
              simp only [Bool.and_eq_true, Nat.beq_eq, Nat.ble_eq] at hc
              obtain ⟨⟨hlen, hle⟩, hfz⟩ := hc
              obtain ⟨rfl, hpl⟩ := storedPlain_inv hw
              injection h with h; subst h
              obtain ⟨k, hk1, hb⟩ := hk.tok tk (.inr ⟨_, List.mem_singleton.2 rfl⟩) li hl
              rw [hsto] at hk1; injection hk1 with hk1; subst hk1
              have hne : rows ≠ [] := by intro e; subst e; simp at hcs
              obtain ⟨h1, h2, h3⟩ := hb
              obtain ⟨arr, el, ha1, ha2, ha3, hrows⟩ := h3 hne
              have hee : e' = e := by rw [← h1, he]
              subst hee
              have hcl : cs.length = e' := (hrows row cs hcs).1
              have hvc := hv.cells (fun c hc => plain_isOne (hpl c hc))
              have hxs : x.cells.size = sz := by have := hvc.length; simp only [Array.length_toList] at this; omega
              have hrl : row < rows.length := by
                rcases Nat.lt_or_ge row rows.length with h | h
                · exact h
                · rw [List.getElem?_eq_none h] at hcs; cases hcs
              have hmul := Nat.mul_le_mul_right e' (show row + 1 ≤ rows.length from hrl)
              rw [Nat.add_mul] at hmul
              have hfit : li.sh + row * e' + off + sz ≤ arr.size := by omega
              have hrun := run_storeAt (P := P) (w := w) (t := t) (b := li.blk) (o := li.sh + row * e' + off) hs ha1 hxs hfit (hvc.one (fun c hc => plain_isOne (hpl c hc)))
              refine ⟨_, hrun, ?_, rfl⟩
              refine Eff.write hk (t := tk) (k0 := .arr e' rows) (li := li) rfl rfl hl hsto (by cases rows with | nil => exact absurd rfl hne | cons _ _ => rfl) (setRow_heap_eq ha1) rfl rfl rfl ?_
              refine ⟨h1, by simpa using h2, fun _ => ⟨(spl (li.sh + row * e' + off) x.cells.toList arr.toList).toArray, el, ?_, ?_, by simpa using ha3, ?_⟩⟩
              · rw [setRow_heap_eq ha1]
                have hlt := (Array.getElem?_eq_some_iff.1 ha1).1
                simp [hlt]
              · rw [← ha2]
                simp only [List.size_toArray]
                rw [spl_length _ _ _ (by simp; omega)]; simp
              · refine hrows.store hcs (by omega) (hvc.plainVals hpl) hvc.length.symm (fun k => ?_)
                simp only [List.getElem?_toArray]
                rw [spl_get _ _ _ (by simp; omega)]
                simp
            · cases h
      | box cs =>
        dsimp only at h
        cases hw : v.stored with
        | none => rw [hw] at h; cases h
        | some ws =>
          rw [hw] at h
          dsimp only at h
          split at h
          · rename_i hc
            simp only [Bool.and_eq_true, Nat.beq_eq, Nat.ble_eq] at hc
            obtain ⟨⟨⟨hrow, hlen⟩, hle⟩, hfz⟩ := hc
            subst hrow
            obtain ⟨rfl, hone⟩ := stored_inv hw
            injection h with h; subst h
            obtain ⟨k, hk1, hb⟩ := hk.tok tk (.inr ⟨_, List.mem_singleton.2 rfl⟩) li hl
            rw [hsto] at hk1; injection hk1 with hk1; subst hk1
            obtain ⟨h1, h2, h3, vs, el, h4, h5, h6⟩ := hb
            have hvc := hv.cells hone
            have hxs : x.cells.size = sz := by have := hvc.length; simp only [Array.length_toList] at this; omega
            have hcv := h6.length
            have hrun := run_storeAt (P := P) (w := w) (t := t) (b := li.blk) (o := li.sh + 0 * e + off) hs h4 hxs (by simp [h3]; omega) (hvc.one hone)
            refine ⟨_, hrun, ?_, rfl⟩
            refine Eff.write hk (t := tk) (k0 := .box cs) (li := li) rfl rfl hl hsto rfl (setRow_heap_eq h4) rfl rfl rfl ?_
            refine ⟨by simpa [splice] using (by rw [h1]; have := spl_length off v.cells cs (by omega); unfold spl at this; simpa using this.symm), h2, h3, spl off x.cells.toList vs, el, ?_, ?_, ?_⟩
            · rw [setRow_heap_eq h4]
              have hlt := (Array.getElem?_eq_some_iff.1 h4).1
              simp [hlt, h3]
            · rw [spl_length _ _ _ (by simp; omega)]; exact h5
            · exact VRL.spl hvc h6
          · cases h
      | _ => cases h
  | _ => cases h

end
end Go.Vm
