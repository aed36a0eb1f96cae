/- Operation by operation: the theorem. -/
import Derived.Test.YtohmmcfniijjkaaMVmEq
namespace Go.Vm
section
variable {P : Program} {im : Im} {loc : Loc} {sto : Sto} {fz : List Nat} {w : World} {e : Env} {ρ : Operand → Value}

theorem eszOk_sl {esz : Nat} {x : PV} (h : eszOk esz x = true) : (∀ e c r, x = .sl e c r → r = [] ∨ e = esz) ∧ (∀ tk e o l c ex, x = .own tk e o l c ex → e = esz) := by
  constructor
  · rintro e c r rfl
    simp only [eszOk, Bool.or_eq_true, Nat.beq_eq, List.isEmpty_iff] at h
    exact h.symm
  · rintro tk e o l c ex rfl
    simpa [eszOk] using h

theorem run_value {x : Sem Value} {v : Value} (h : x.run P w = .ok v w) : (do pure (Next.value (← x)) : Sem Next).run P w = .ok (.value v) w := by
  simp only [Sem.run_bind, h, Result.andThen_ok, Sem.run_pure]

theorem run_valueW {x : Sem Value} {v : Value} {w' : World} (h : x.run P w = .ok v w') : (do pure (Next.value (← x)) : Sem Next).run P w = .ok (.value v) w' := by
  simp only [Sem.run_bind, h, Result.andThen_ok, Sem.run_pure]

theorem chkOpds2 {x y : Opd} {l : List Operand} (h : chkOpds [x, y] l = true) : ∃ a b, l = [a, b] ∧ chkOpd x a = true ∧ chkOpd y b = true := by
  match l, h with
  | [], h => simp [chkOpds] at h
  | [_], h => simp [chkOpds] at h
  | [a, b], h => simp only [chkOpds, Bool.and_eq_true, Bool.and_true] at h; exact ⟨a, b, rfl, h.1, h.2⟩
  | _ :: _ :: _ :: _, h => simp [chkOpds] at h

theorem chkOpds1 {x : Opd} {l : List Operand} (h : chkOpds [x] l = true) : ∃ a, l = [a] ∧ chkOpd x a = true := by
  match l, h with
  | [], h => simp [chkOpds] at h
  | [a], h => simp only [chkOpds, Bool.and_true] at h; exact ⟨a, rfl, h⟩
  | _ :: _ :: _, h => simp [chkOpds] at h

theorem evOp_sim {prims : FuncId → Bool} {x : XOp} {o : Oper} {r : Res} (hc : chkOp P prims o.type x o.op = true) (hρ : ∀ y ∈ x.opds, ∀ o', chkOpd y o' = true → VR im loc (y.ev e) (ρ o'))
    (h : evOp e sto fz x = some r) (hk : Known im loc sto w r) : OpSim P ρ o im loc sto w r := by
  unfold chkOp at hc
  split at hc
  case h_1 x o' hop =>
    -- mov
    injection h with h; subst h
    exact .pure hk rfl rfl (by simp [execOp, hop]) (hρ x (by simp [XOp.opds]) o' hc)
  case h_2 x o' hop =>
    injection h with h; subst h
    exact .pure hk rfl rfl (by simp [execOp, hop]) (hρ x (by simp [XOp.opds]) o' hc)
  case h_3 c a b d e' f hop =>
    simp only [Bool.and_eq_true] at hc
    have h1 := hρ c (by simp [XOp.opds]) d hc.1.1
    simp only [evOp] at h
    split at h
    · rename_i hb; rw [hb] at h1; have h1 := h1.bool_inv
      injection h with h; subst h
      exact .pure hk rfl rfl (by simp [execOp, hop, h1, asBool]) (hρ a (by simp [XOp.opds]) _ hc.1.2)
    · rename_i hb; rw [hb] at h1; have h1 := h1.bool_inv
      injection h with h; subst h
      exact .pure hk rfl rfl (by simp [execOp, hop, h1, asBool]) (hρ b (by simp [XOp.opds]) _ hc.2)
    · cases h
  case h_4 op x y op' t a b u hop =>
    simp only [Bool.and_eq_true, beq_iff_eq] at hc
    obtain ⟨⟨rfl, h1⟩, h2⟩ := hc
    simp only [evOp, Option.map_eq_some_iff] at h
    obtain ⟨z, hz, rfl⟩ := h
    obtain ⟨v, hrun, hv⟩ := run_bin (P := P) (w := w) (t := t) (a := a) (b := b) (hρ x (by simp [XOp.opds]) a h1) (hρ y (by simp [XOp.opds]) b h2) hz
    exact .pure hk rfl rfl (by simp only [execOp, hop]; exact run_value hrun) hv
  case h_5 neg x y op t a b u hop =>
    simp only [Bool.and_eq_true] at hc
    obtain ⟨⟨⟨h0, ht⟩, h1⟩, h2⟩ := hc
    have hx := hρ x (by simp [XOp.opds]) a h1
    have hy := hρ y (by simp [XOp.opds]) b h2
    simp only [evOp] at h
    split at h
    · rename_i p q hp hq
      rw [hp] at hx; rw [hq] at hy
      injection h with h; subst h
      have ho : op = if neg then .neq else .eql := by cases neg <;> simpa using h0
      refine .pure (v := .bool (if neg then !(p == q) else p == q)) hk rfl rfl ?_ (.bool _)
      simp only [execOp, hop, hx.bool_inv, hy.bool_inv]
      exact run_value (run_binb ho (matches_bool ht))
    · cases h
  case h_6 n neg x y op t a b u hop =>
    simp only [Bool.and_eq_true, Bool.not_eq_true', beq_iff_eq] at hc
    obtain ⟨⟨⟨⟨⟨h0, hr⟩, hn⟩, hg⟩, h1⟩, h2⟩ := hc
    have hx := hρ x (by simp [XOp.opds]) a h1
    have hy := hρ y (by simp [XOp.opds]) b h2
    simp only [evOp] at h
    split at h
    · rename_i p q hp hq
      rw [hp] at hx; rw [hq] at hy
      obtain ⟨us, hu1, hu2⟩ := hx.agg_inv
      obtain ⟨vs, hv1, hv2⟩ := hy.agg_inv
      split at h
      case isFalse => cases h
      rename_i hlen
      simp only [Bool.and_eq_true, Nat.beq_eq] at hlen
      rw [Option.map_eq_some_iff] at h
      obtain ⟨c, hcc, rfl⟩ := h
      have ho : op = if neg then .neq else .eql := by cases neg <;> simpa using h0
      have hq2 := flat_eq (P := P) (w := w) 100 t n hn 10000 (by omega) p q us vs c hu2 hv2 hlen.1 hlen.2 hcc
      simp only [whole, hr, if_true] at hq2
      refine .pure (v := .bool (if neg then !c else c)) hk rfl rfl ?_ (.bool _)
      simp only [execOp, hop, hu1, hv1]
      refine run_value ?_
      simp only [Sem.run_bind, run_eqGuard_agg w op t a b ⟨us⟩ ⟨vs⟩ hg, Result.andThen_ok]
      cases neg with
      | true =>
        simp only [if_true] at ho ⊢; subst ho
        rw [run_neq_struct, hq2]; rfl
      | false =>
        simp only [Bool.false_eq_true, if_false] at ho ⊢; subst ho
        rw [run_eql_struct, hq2]; rfl
    · cases h
  case h_7 op x op' t a hop =>
    simp only [Bool.and_eq_true, beq_iff_eq] at hc
    obtain ⟨rfl, h1⟩ := hc
    simp only [evOp, Option.map_eq_some_iff] at h
    obtain ⟨z, hz, rfl⟩ := h
    obtain ⟨v, hrun, hv⟩ := run_un (P := P) (w := w) (hρ x (by simp [XOp.opds]) a h1) hz
    exact .pure hk rfl rfl (by simp only [execOp, hop]; exact run_value hrun) hv
  case h_8 k x s d a hop =>
    simp only [Bool.and_eq_true] at hc
    obtain ⟨⟨hs, hd⟩, h1⟩ := hc
    have hx := hρ x (by simp [XOp.opds]) a h1
    obtain ⟨ds, hds⟩ := Option.isSome_iff_exists.1 hs
    simp only [evOp] at h
    split at h
    · rename_i k' n hp
      rw [hp] at hx
      injection h with h; subst h
      split at hd
      · rename_i l hl
        have := kindEq_iff.1 hd; subst this
        refine .pure hk rfl rfl ?_ (.int _ _)
        simp only [execOp, hop, hx.int_inv]
        exact run_value (run_conv hds hl)
      · cases hd
    · cases h
  case h_9 x args argTypes hop =>
    simp only [Bool.and_eq_true] at hc
    obtain ⟨ht, h1⟩ := hc
    obtain ⟨a, ha, h1a⟩ := chkOpds1 h1
    have hargs : args = #[a] := Array.ext' (by simpa using ha)
    subst hargs
    have hx := hρ x (by simp [XOp.opds]) a h1a
    split at ht
    · rename_i t ht0
      unfold isSliceT at ht
      split at ht
      · rename_i el hu
        have hrun : ∀ {v : Value}, (Builtin.len_ argTypes o.type #[ρ a]).run P w = .ok v w → (execOp ρ o).run P w = .ok (.value v) w := by
          intro v hv
          simp only [execOp, hop, resolve, Sem.run_bind, Sem.run_pure, Result.andThen_ok, invoke, builtin]
          rw [show Array.map ρ #[a] = #[ρ a] by simp, hv]; rfl
        simp only [evOp] at h
        split at h
        · rename_i e' c rows hp
          rw [hp] at hx
          obtain ⟨ad, cap, hv, _⟩ := hx.sl_inv
          injection h with h; subst h
          exact .pure hk rfl rfl (hrun (by simp [Builtin.len_, ht0, run_underlying hu, hv, goInt])) (.int _ _)
        · rename_i tk e' off len cap ex hp
          rw [hp] at hx
          obtain ⟨li, ad, cap', hv, _⟩ := hx.own_inv
          injection h with h; subst h
          exact .pure hk rfl rfl (hrun (by simp [Builtin.len_, ht0, run_underlying hu, hv, goInt])) (.int _ _)
        · cases h
      · cases ht
    · cases ht
  case h_10 n args argTypes hop =>
    simp only [Bool.and_eq_true] at hc
    obtain ⟨h0, ht⟩ := hc
    have hne : args.size ≠ 0 := by intro hz; have : args = #[] := Array.eq_empty_of_size_eq_zero hz; subst this; simp at h0
    have ha0 : (Array.map ρ args)[0]? = some (ρ args[0]) := by simp [show 0 < args.size by omega]
    simp only [evOp, Option.some.injEq] at h
    subst h
    have hrun : ∀ {v : Value}, (Builtin.len_ argTypes o.type (Array.map ρ args)).run P w = .ok v w → (execOp ρ o).run P w = .ok (.value v) w := by
      intro v hv
      simp only [execOp, hop, resolve, Sem.run_bind, Sem.run_pure, Result.andThen_ok, invoke, builtin, hv]
    refine .pure hk rfl rfl (hrun ?_) (.int _ _)
    split at ht
    · rename_i t ht0
      split at ht
      · rename_i m el hu
        have hm : m = n := by simpa using ht
        subst hm
        simp only [Builtin.len_, ht0, ha0, Sem.run_bind, run_underlying hu, Result.andThen_ok, goInt]
        cases ρ args[0] <;> rfl
      · rename_i el hu
        split at ht
        · rename_i m el2 hu2
          have hm : m = n := by simpa using ht
          subst hm
          simp only [Builtin.len_, ht0, ha0, Sem.run_bind, run_underlying hu, Result.andThen_ok, goInt]
          cases ρ args[0] <;> simp [run_underlying hu2]
        · cases ht
      · cases ht
    · cases ht
  case h_11 x el a hop =>
    have hx := hρ x (by simp [XOp.opds]) a hc
    simp only [evOp] at h
    cases hst : (x.ev e).stored with
    | none => rw [hst] at h; cases h
    | some cs =>
      rw [hst] at h
      injection h with h
      obtain ⟨rfl, hone⟩ := stored_inv hst
      obtain ⟨loc', hv, he⟩ := sim_newbox (el := el) (hx.cells hone) h.symm hk
      refine ⟨_, _, loc', ?_, .inr ⟨_, rfl, hv⟩, he⟩
      simp [execOp, hop, Instr.box, newVar, newRow]
  case h_12 cells t hop =>
    simp only [evOp, Option.some.injEq] at h
    unfold zeroIs at hc
    cases hi : P.info? t with
    | none => rw [hi] at hc; cases hc
    | some i =>
      rw [hi] at hc
      cases hz : i.zero with
      | none => simp [hz] at hc
      | some z =>
        simp [hz] at hc
        obtain ⟨loc', hv, he⟩ := sim_newbox (el := t) (cvalL_ok (im := im) (loc := loc) hc) h.symm hk
        refine ⟨_, _, loc', ?_, .inr ⟨_, rfl, hv⟩, he⟩
        simp [execOp, hop, Instr.alloc, newVar, newRow, zeroValue, typeInfo, hi, hz]
  case h_13 zero parts t ps hop =>
    simp only [Bool.and_eq_true] at hc
    obtain ⟨⟨⟨hz, _⟩, hp⟩, hty⟩ := hc
    simp only [evOp, Option.map_eq_some_iff] at h
    obtain ⟨cs, hcs, rfl⟩ := h
    have hrel := chkParts_rel (im := im) (loc := loc) (e := e) (ρ := ρ) (fun y hy => hρ y (by simpa [XOp.opds] using hy)) hp
    obtain ⟨v, hrun, hv⟩ := sim_build (P := P) (w := w) (qs := ps.map fun (i, x) => (i, ρ x)) hz hty (by simpa using hrel) hcs
    exact .pure hk rfl rfl (by simp only [execOp, hop]; exact run_value hrun) hv
  case h_14 esz n zero parts t m ps hop =>
    simp only [Bool.and_eq_true, beq_iff_eq] at hc
    obtain ⟨⟨⟨⟨rfl, hty⟩, hle⟩, hpl⟩, hp⟩ := hc
    split at hty
    · rename_i el hu
      simp only [Bool.and_eq_true, beq_iff_eq, Bool.not_eq_true'] at hty
      obtain ⟨⟨⟨hs, hz⟩, hzl⟩, hnz⟩ := hty
      simp only [evOp, Option.map_eq_some_iff] at h
      obtain ⟨rows, hrows, h⟩ := h
      obtain ⟨i, z, hi, hzz, hlen, hcell⟩ := zero_row hz hpl
      have hesz : z.cells.size = esz := by omega
      have hat := rows_zero hcell hlen n
      rw [hesz] at hat
      obtain ⟨vs', h1, h2, h3, h4⟩ := sim_fillRows (n := n) (esz := esz) (chkRowParts_rel (im := im) (loc := loc) (e := e) (ρ := ρ) (fun y hy => hρ y (by simpa [XOp.opds] using hy)) hp) hat (by simp) (by simp) hrows
      obtain ⟨loc', hv, he⟩ := sim_newrows (el := el) h.symm hk h2 h3 h4 rfl (Nat.le_refl _)
      refine ⟨_, _, loc', ?_, .inr ⟨_, rfl, hv⟩, he⟩
      have hzr : (zeroValue el).run P w = .ok z w := by simp [zeroValue, typeInfo, hi, hzz]
      have hle : n * esz ≤ 1048576 := by simpa using hle
      have hbig : ¬ (n * esz > 2 ^ 24) := by omega
      simp only [execOp, hop, Instr.buildSlice, Sem.run_bind, run_underlying hu, Result.andThen_ok, szIs_run hs, hbig, if_false]
      by_cases h0 : n * esz = 0
      · have hn0 : n = 0 := by
          rcases Nat.mul_eq_zero.1 h0 with h | h
          · exact h
          · rw [h] at hnz; simp at hnz
        subst hn0
        simp only [Nat.zero_mul] at h1
        simp only [Nat.zero_mul, if_true, Sem.run_bind, Sem.run_pure, Result.andThen_ok, Array.toList_map]
        have e0 : (Array.map (fun x => (#[] : Array Value)[x % (#[] : Array Value).size]!) (Array.range 0)) = (Array.map (fun x => z.cells[x % esz]!) (Array.range 0)) := by simp
        rw [e0, h1]
        simp [newRow]
      · simp only [h0, if_false, Sem.run_bind, hzr, Result.andThen_ok, Sem.run_pure]
        simp only [hesz, Array.toList_map, h1]
        simp [newRow]
    · cases hty
  case h_15 agg p t a hop =>
    simp only [Bool.and_eq_true] at hc
    have hx := hρ p (by simp [XOp.opds]) a hc.2
    simp only [evOp] at h
    obtain ⟨v, hrun, hv, hn, hw⟩ := sim_load (P := P) hx hc.1 h hk
    exact .pure hk hn hw (by simp only [execOp, hop]; exact run_value hrun) hv
  case h_16 sz p v t a b hop =>
    simp only [Bool.and_eq_true] at hc
    simp only [evOp] at h
    obtain ⟨w', hrun, heff, hu⟩ := sim_store (P := P) (hρ p (by simp [XOp.opds]) a hc.1.2) (hρ v (by simp [XOp.opds]) b hc.2) hc.1.1 h hk
    exact ⟨.skip, w', loc, by simp only [execOp, hop, Sem.run_bind, hrun, Result.andThen_ok, Sem.run_pure], .inl ⟨rfl, hu⟩, heff⟩
  case h_17 x a hop =>
    have hx := hρ x (by simp [XOp.opds]) a hc
    simp only [evOp] at h
    split at h
    · rename_i t s r' o' hp
      rw [hp] at hx
      injection h with h; subst h
      obtain ⟨li, h1, h2, h3, hv⟩ := hx.ptr_inv
      exact .pure hk rfl rfl (by simp only [execOp, hop, hv]; rfl) (by rw [← hv]; exact hx)
    · rename_i c o' hp
      rw [hp] at hx
      injection h with h; subst h
      obtain ⟨b, o2, vs, h1, h2, hv⟩ := hx.rptr_inv
      exact .pure hk rfl rfl (by simp only [execOp, hop, hv]; rfl) (by rw [← hv]; exact hx)
    · rename_i f a' b' hp
      rw [hp] at hx
      injection h with h; subst h
      generalize hg : ρ a = g at hx
      cases hx with
      | clo fn a b as bs ha hb =>
        exact .pure hk rfl rfl (by simp only [execOp, hop, hg]; rfl) (.clo _ _ _ _ _ ha hb)
    · cases h
  case h_18 off p t a f hop =>
    simp only [Bool.and_eq_true] at hc
    obtain ⟨hc, h1⟩ := hc
    have hx := hρ p (by simp [XOp.opds]) a h1
    split at hc
    · rename_i fs hu
      split at hc
      · rename_i g hg
        simp only [Bool.and_eq_true, beq_iff_eq] at hc
        obtain ⟨hoff, hi⟩ := hc
        cases hinf : P.info? g.type with
        | none => rw [hinf] at hi; cases hi
        | some i =>
          rw [hinf] at hi
          have hz : i.size ≠ 0 := by simpa using hi
          simp only [evOp] at h
          have : ∃ z, (match p.ev e with | .ptr t s r o => some (PV.ptr t s r (o + off)) | .rptr c o => some (PV.rptr c (o + off)) | _ => none) = some z ∧ r = { v := z } := by
            revert h
            cases p.ev e <;> intro h <;> first | (injection h with h; exact ⟨_, rfl, h.symm⟩) | cases h
          obtain ⟨z, hz', rfl⟩ := this
          obtain ⟨v, hrun, hv⟩ := sim_fadr (P := P) (w := w) hx hu hg hoff hinf hz hz'
          exact .pure hk rfl rfl (by simp only [execOp, hop]; exact run_value hrun) hv
      · cases hc
    · cases hc
  case h_19 agg off x t a f hop =>
    simp only [Bool.and_eq_true] at hc
    obtain ⟨hc, h1⟩ := hc
    have hx := hρ x (by simp [XOp.opds]) a h1
    split at hc
    · rename_i fs hu
      split at hc
      · rename_i g hg
        simp only [Bool.and_eq_true, beq_iff_eq] at hc
        obtain ⟨hoff, hag⟩ := hc
        simp only [evOp] at h
        split at h
        · rename_i cs hp
          rw [hp] at hx
          obtain ⟨vs, hv, hvr⟩ := hx.agg_inv
          rw [Option.map_eq_some_iff] at h
          obtain ⟨z, hz, rfl⟩ := h
          rw [← hoff] at hz
          obtain ⟨v, hrun, hvv⟩ := part_agg (P := P) (w := w) hag hvr hz
          refine .pure hk rfl rfl ?_ hvv
          simp only [execOp, hop]
          exact run_value (by simp only [Instr.field, Sem.run_bind, run_underlying hu, Result.andThen_ok, hg, hv, asAgg, Sem.run_pure, hrun])
        · cases h
      · cases hc
    · cases hc
  case h_20 esz x i t a j hop =>
    simp only [Bool.and_eq_true] at hc
    obtain ⟨⟨hs, h1⟩, h2⟩ := hc
    have hx := hρ x (by simp [XOp.opds]) a h1
    have hi := hρ i (by simp [XOp.opds]) j h2
    simp only [evOp] at h
    cases hn : asNat (i.ev e) with
    | none => rw [hn] at h; cases h
    | some n =>
      rw [hn] at h
      dsimp only at h
      obtain ⟨k, hk2⟩ := asNat_inv hi hn
      unfold sliceOf at hs
      split at hs
      · rename_i el hu
        have : ∃ z, (match x.ev e with
          | .sl s _ rows => match rows[n]? with
            | some cs => if Nat.beq s esz then some (PV.rptr cs 0) else none
            | none => none
          | .own t s off len _ _ => if Nat.blt n len && Nat.beq s esz then some (PV.ptr t s (off + n) 0) else none
          | _ => none) = some z ∧ r = { v := z } := by
          revert h
          cases x.ev e with
          | sl s c rows =>
            dsimp only
            cases rows[n]? with
            | none => intro h; cases h
            | some cs =>
              dsimp only
              split
              · intro h; injection h with h; exact ⟨_, rfl, h.symm⟩
              · intro h; cases h
          | own t s off len cap ex =>
            dsimp only
            split
            · intro h; injection h with h; exact ⟨_, rfl, h.symm⟩
            · intro h; cases h
          | _ => intro h; cases h
        obtain ⟨z, hz, rfl⟩ := this
        obtain ⟨v, hrun, hv⟩ := sim_iadr (P := P) (w := w) (k := k) hx hu hs hz
        exact .pure hk rfl rfl (by simp only [execOp, hop, hk2]; exact run_value hrun) hv
      · cases hs
  case h_21 n esz p i t a j hop =>
    simp only [Bool.and_eq_true] at hc
    obtain ⟨⟨hs, h1⟩, h2⟩ := hc
    have hx := hρ p (by simp [XOp.opds]) a h1
    have hi := hρ i (by simp [XOp.opds]) j h2
    simp only [evOp] at h
    cases hn : asNat (i.ev e) with
    | none => rw [hn] at h; cases h
    | some m =>
      rw [hn] at h
      dsimp only at h
      split at h
      · rename_i hlt
        have hlt : m < n := by simpa using hlt
        obtain ⟨k, hk2⟩ := asNat_inv hi hn
        unfold arrayIs at hs
        split at hs
        · rename_i m' el hu
          simp only [Bool.and_eq_true, beq_iff_eq] at hs
          obtain ⟨rfl, hs⟩ := hs
          have : ∃ z, (match p.ev e with | .ptr t s r o => some (PV.ptr t s r (o + m * esz)) | .rptr c o => some (PV.rptr c (o + m * esz)) | _ => none) = some z ∧ r = { v := z } := by
            revert h
            cases p.ev e <;> intro h <;> first | (injection h with h; exact ⟨_, rfl, h.symm⟩) | cases h
          obtain ⟨z, hz, rfl⟩ := this
          obtain ⟨v, hrun, hv⟩ := sim_iadra (P := P) (w := w) (k := k) hx hu hs hlt hz
          exact .pure hk rfl rfl (by simp only [execOp, hop, hk2]; exact run_value hrun) hv
        · cases hs
      · cases h
  case h_22 n esz agg x i t a j hop =>
    simp only [Bool.and_eq_true] at hc
    obtain ⟨⟨hs, h1⟩, h2⟩ := hc
    have hx := hρ x (by simp [XOp.opds]) a h1
    have hi := hρ i (by simp [XOp.opds]) j h2
    simp only [evOp] at h
    cases hn : asNat (i.ev e) with
    | none => rw [hn] at h; cases h
    | some m =>
      rw [hn] at h
      dsimp only at h
      split at h
      · rename_i hlt
        have hlt : m < n := by simpa using hlt
        obtain ⟨k, hk2⟩ := asNat_inv hi hn
        split at hs
        · rename_i m' el hu
          simp only [Bool.and_eq_true, beq_iff_eq] at hs
          obtain ⟨⟨rfl, hs⟩, hag⟩ := hs
          split at h
          · rename_i cs hp
            rw [hp] at hx
            obtain ⟨vs, hv, hvr⟩ := hx.agg_inv
            rw [Option.map_eq_some_iff] at h
            obtain ⟨z, hz, rfl⟩ := h
            obtain ⟨v, hrun, hvv⟩ := part_agg (P := P) (w := w) hag hvr hz
            refine .pure hk rfl rfl ?_ hvv
            have hlt2 : (0 : Int) ≤ (m : Int) ∧ (m : Int) < (m' : Int) := by omega
            simp only [execOp, hop]
            exact run_value (by simp only [Instr.index, hk2, asIntOf, Sem.run_bind, Sem.run_pure, run_underlying hu, Result.andThen_ok, hv, hlt2, and_self, if_true, szIs_run hs, Int.toNat_natCast, hrun])
          · cases h
        · cases hs
      · cases h
  case h_23 x i t a j hop =>
    simp only [Bool.and_eq_true] at hc
    obtain ⟨⟨hs, h1⟩, h2⟩ := hc
    have hx := hρ x (by simp [XOp.opds]) a h1
    have hi := hρ i (by simp [XOp.opds]) j h2
    have hu : P.underlying t = some .string := by
      split at hs
      · assumption
      · cases hs
    simp only [evOp] at h
    split at h
    · rename_i n s hn hp
      rw [hp] at hx
      obtain ⟨k, hk2⟩ := asNat_inv hi hn
      split at h
      · rename_i b hb
        injection h with h; subst h
        refine .pure hk rfl rfl ?_ (.int _ _)
        have h0 : (0 : Int) ≤ (n : Int) := by omega
        simp only [execOp, hop]
        exact run_value (by simp only [Instr.index, hk2, asIntOf, Sem.run_bind, Sem.run_pure, run_underlying hu, Result.andThen_ok, hx.str_inv, h0, if_true, Int.toNat_natCast, hb])
      · cases h
    · cases h
  case h_24 esz x l hh m t a b c d hop =>
    simp only [Bool.and_eq_true] at hc
    obtain ⟨⟨⟨⟨⟨h0, hs⟩, h1⟩, h2⟩, h3⟩, h4⟩ := hc
    have hx := hρ x (by simp [XOp.opds]) a h1
    simp only [evOp] at h
    split at h
    · cases h
    · rename_i he
      have he : eszOk esz (x.ev e) = true := by simpa using he
      obtain ⟨he1, he2⟩ := eszOk_sl he
      split at h
      · rename_i lo hi mx hlo hhi hmx
        rw [Option.map_eq_some_iff] at h
        obtain ⟨z, hz, rfl⟩ := h
        unfold sliceOf at hs
        split at hs
        · rename_i el hu
          have b1 := chkOpo_bound (im := im) (loc := loc) (e := e) (ρ := ρ) (fun y hy => hρ y (by simp only [XOp.opds, List.mem_cons, List.mem_append]; exact .inr (.inl (.inl hy)))) h2 hlo
          have b2 := chkOpo_bound (im := im) (loc := loc) (e := e) (ρ := ρ) (fun y hy => hρ y (by simp only [XOp.opds, List.mem_cons, List.mem_append]; exact .inr (.inl (.inr hy)))) h3 hhi
          have b3 := chkOpo_bound (im := im) (loc := loc) (e := e) (ρ := ρ) (fun y hy => hρ y (by simp only [XOp.opds, List.mem_cons, List.mem_append]; exact .inr (.inr hy))) h4 hmx
          have hm2 : mx.isSome = true → hi.isSome = true := by
            intro hmm
            cases m with
            | none => simp at hmx; subst hmx; cases hmm
            | some mo =>
              cases hh with
              | none => simp at h0
              | some ho =>
                simp only [Option.map_eq_some_iff] at hhi
                obtain ⟨q, _, rfl⟩ := hhi
                rfl
          obtain ⟨v, hrun, hv⟩ := sim_slice (P := P) (w := w) hx hu hs b1 b2 b3 hm2 he1 he2 hz
          exact .pure hk rfl rfl (by simp only [execOp, hop]; exact run_value hrun) hv
        · cases hs
      · cases h
  case h_25 esz zero l c t a b hop =>
    simp only [Bool.and_eq_true] at hc
    obtain ⟨⟨⟨hty, hpl⟩, h1⟩, h2⟩ := hc
    have hx := hρ l (by simp [XOp.opds]) a h1
    have hy := hρ c (by simp [XOp.opds]) b h2
    split at hty
    · rename_i el hu
      simp only [Bool.and_eq_true, beq_iff_eq, Bool.not_eq_true'] at hty
      obtain ⟨⟨⟨⟨hs, hz⟩, hzl⟩, hby⟩, hnz⟩ := hty
      simp only [evOp] at h
      split at h
      · rename_i n m hn hm
        obtain ⟨k1, hk1⟩ := asNat_inv hx hn
        obtain ⟨k2, hk2⟩ := asNat_inv hy hm
        split at h
        · rename_i hle
          simp only [Bool.and_eq_true, Nat.ble_eq] at hle
          injection h with h
          obtain ⟨i, z, hi, hzz, hlen, hcell⟩ := zero_row hz hpl
          have hesz : z.cells.size = esz := by omega
          have hat := rows_zero hcell hlen m
          rw [hesz] at hat
          have hmost : m ≤ 1048576 := by simpa [most] using hle.2
          obtain ⟨loc', hv, he⟩ := sim_newrows (el := el) h.symm hk hat (by simp) (by simp) rfl hle.1
          refine ⟨_, _, loc', ?_, .inr ⟨_, rfl, hv⟩, he⟩
          have hzr : (zeroValue el).run P w = .ok z w := by simp [zeroValue, typeInfo, hi, hzz]
          have hti : (typeInfo el).run P w = .ok i w := by simp [typeInfo, hi]
          have hbb : i.bytes ≤ 1048576 := by
            unfold bytesOk at hby; rw [hi] at hby; simpa using hby
          have hw1 : IntKind.i64.wrap (n : Int) = n := wrap_id (by omega) (by omega)
          have hw2 : IntKind.i64.wrap (m : Int) = m := wrap_id (by omega) (by omega)
          have hprod : i.bytes * m ≤ 1099511627776 := by
            have := Nat.mul_le_mul hbb hmost
            omega
          have hc1 : ¬ ((i.bytes : Int) * (m : Int) > 2 ^ 48) := by
            have : ((i.bytes * m : Nat) : Int) = (i.bytes : Int) * (m : Int) := by simp
            omega
          have hszr : (sizeOf el).run P w = .ok esz w := szIs_run hs
          simp only [execOp, hop, hk1, hk2, Instr.makeSlice, asInt, asIntOf, Sem.run_bind, run_underlying hu, Result.andThen_ok, Sem.run_pure, hti, hw1, hw2]
          have hcond : ((decide ((m : Int) < 0) || decide ((i.bytes : Int) * (m : Int) > 2 ^ 48)) || decide ((n : Int) < 0) || decide ((n : Int) > (m : Int))) = false := by
            simp only [Bool.or_eq_false_iff, decide_eq_false_iff_not]
            refine ⟨⟨⟨by omega, hc1⟩, by omega⟩, by omega⟩
          rw [hcond]
          simp only [Bool.false_eq_true, if_false, Sem.run_bind, run_askRoom, Result.andThen_ok, hszr, Int.toNat_natCast]
          by_cases h0 : m * esz = 0
          · have hm0 : m = 0 := by
              rcases Nat.mul_eq_zero.1 h0 with h | h
              · exact h
              · rw [h] at hnz; simp at hnz
            subst hm0
            simp [newRow]
            congr 2
            apply Array.ext <;> simp
          · simp only [h0, if_false, Sem.run_bind, hzr, Result.andThen_ok, Sem.run_pure, hesz]
            simp [newRow]
        · cases h
      · cases h
    · cases hty
  case h_26 fn a b g c d hop =>
    simp only [Bool.and_eq_true, beq_iff_eq] at hc
    obtain ⟨⟨rfl, h1⟩, h2⟩ := hc
    simp only [evOp, Option.some.injEq] at h
    subst h
    have r1 := chkOpds_rel (im := im) (loc := loc) (e := e) (ρ := ρ) (fun y hy => hρ y (by simp [XOp.opds, hy])) h1
    have r2 := chkOpds_rel (im := im) (loc := loc) (e := e) (ρ := ρ) (fun y hy => hρ y (by simp [XOp.opds, hy])) h2
    refine .pure (v := .func (.func fn) (c.map ρ) (d.map ρ)) hk rfl rfl (by simp only [execOp, hop]; exact run_value rfl) ?_
    have := VR.clo (im := im) (loc := loc) fn _ _ _ _ r1 r2
    have e1 : (⟨c.toList.map ρ⟩ : Array Value) = c.map ρ := Array.ext' (by simp)
    have e2 : (⟨d.toList.map ρ⟩ : Array Value) = d.map ρ := Array.ext' (by simp)
    rw [e1, e2] at this
    exact this
  case h_27 t hop =>
    simp only [evOp, Option.some.injEq] at h
    let li : LI := ⟨w.heap.size, 0, 0, 0, 0⟩
    refine ⟨.value (.map (some w.heap.size)), { w with heap := w.heap.push (.map #[] 0) }, loc.set sto.length li, ?_, .inr ⟨_, rfl, ?_⟩, ?_⟩
    · simp [execOp, hop, Instr.makeMap]
    · subst h; exact .mp sto.length li (Loc.set_same _ _ _)
    · refine Eff.new hk (k := .map []) (o := .map #[] 0) li (by rw [← h]) (by rw [← h]) rfl rfl rfl rfl rfl ⟨#[], 0, by simp [li], trivial⟩
  case h_28 i x a j hop =>
    simp only [Bool.and_eq_true, beq_iff_eq] at hc
    obtain ⟨rfl, h1⟩ := hc
    have hx := hρ x (by simp [XOp.opds]) a h1
    simp only [evOp] at h
    split at h
    · rename_i vs hp
      rw [hp] at hx
      obtain ⟨us, hv, hvr⟩ := hx.tup_inv
      rw [Option.map_eq_some_iff] at h
      obtain ⟨z, hz, rfl⟩ := h
      obtain ⟨u, hu, hur⟩ := hvr.get i z hz
      have hu' : (⟨us⟩ : Array Value)[i]? = some u := by simpa using hu
      exact .pure hk rfl rfl (by simp only [execOp, hop]; exact run_value (by simp [Instr.extract, hv, hu'])) hur
    · cases h
  case h_29 esz x y args argTypes hop =>
    simp only [Bool.and_eq_true] at hc
    obtain ⟨hty, h1⟩ := hc
    obtain ⟨a, b, hab, h1a, h1b⟩ := chkOpds2 h1
    have hargs : args = #[a, b] := Array.ext' (by simpa using hab)
    subst hargs
    have hx := hρ x (by simp [XOp.opds]) a h1a
    have hy := hρ y (by simp [XOp.opds]) b h1b
    split at hty
    · rename_i t tx hat
      have hats : argTypes = #[t, tx] := Array.ext' (by simpa using hat)
      subst hats
      simp only [Bool.and_eq_true] at hty
      obtain ⟨hty, hsl⟩ := hty
      unfold isSliceT at hsl
      split at hsl
      · rename_i e' htx
        split at hty
        · rename_i el hu
          simp only [Bool.and_eq_true] at hty
          obtain ⟨⟨⟨hs, hby⟩, hnz⟩, hz⟩ := hty
          cases hi : P.info? el with
          | none => rw [hi] at hz; cases hz
          | some i =>
            rw [hi] at hz
            cases hzz : i.zero with
            | none => simp [hzz] at hz
            | some z =>
              have hzs : z.cells.size = esz := by
                rw [Option.any_some, hzz, Option.any_some] at hz
                simpa using hz
              have hsz : i.size = esz := by unfold szIs at hs; rw [hi] at hs; simpa using hs
              have hbb : i.bytes ≤ 1048576 := by unfold bytesOk at hby; rw [hi] at hby; simpa using hby
              simp only [evOp] at h
              obtain ⟨v', w', loc', hrun, hv, heff⟩ := sim_append (P := P) (ty := o.type) hu htx hi hsz hzz hzs hbb hx hy h hk
              refine ⟨.value v', w', loc', ?_, .inr ⟨v', rfl, hv⟩, heff⟩
              simp only [execOp, hop, resolve, Sem.run_bind, Sem.run_pure, Result.andThen_ok, invoke, builtin]
              rw [show Array.map ρ #[a, b] = #[ρ a, ρ b] by simp, hrun]; rfl
        · cases hty
      · cases hsl
    · cases hty
  case h_30 isMax x xs b args ats hop =>
    simp only [Bool.and_eq_true] at hc
    obtain ⟨hb, h1⟩ := hc
    simp only [evOp] at h
    have hrel := chkOpds_rel (im := im) (loc := loc) (e := e) (ρ := ρ) (fun y hy => hρ y (by simpa [XOp.opds] using hy)) h1
    split at h
    · rename_i k a hp
      rw [Option.map_eq_some_iff] at h
      obtain ⟨z, hz, rfl⟩ := h
      have hev : evs e (x :: xs) = .int k a :: evs e xs := by simp [evs, hp]
      rw [hev] at hrel
      generalize hl : args.toList.map ρ = l at hrel
      cases hrel with
      | cons _ u _ us h1 h2 =>
        obtain rfl := h1.int_inv
        obtain ⟨c, rfl, hrun⟩ := mm_fold (P := P) (w := w) (isMax := isMax) h2 hz
        refine .pure hk rfl rfl ?_ (.int k c)
        have hl' : (args.map ρ).toList = .int k a :: us := by simpa using hl
        have hbb : b = if isMax then .max else .min := by cases isMax <;> simpa using hb
        subst hbb
        cases isMax with
        | true =>
          simp only [if_true] at hop hrun
          simp only [execOp, hop, resolve, Sem.run_bind, Sem.run_pure, Result.andThen_ok, invoke, builtin, Builtin.max_, hl', hrun]
        | false =>
          simp only [Bool.false_eq_true, if_false] at hop hrun
          simp only [execOp, hop, resolve, Sem.run_bind, Sem.run_pure, Result.andThen_ok, invoke, builtin, Builtin.min_, hl', hrun]
    · cases h
  all_goals first | (simp only [evOp] at h; cases h; done) | (simp at hc; done)
end
end Go.Vm
