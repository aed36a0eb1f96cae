/- Operation by operation: the model's run gives what the logical machine says. First part: what reads no memory. -/
import Derived.Test.YtohmmcfniijjkaaMVmRel
import Derived.Test.YtohmmcfniijjkaaMVmChk
namespace Go.Vm

theorem kindEq_iff {k l : IntKind} : kindEq k l = true ↔ k = l := by
  cases k <;> cases l <;> simp [kindEq]

theorem wrap_id {n : Int} (h1 : -9223372036854775808 ≤ n) (h2 : n < 9223372036854775808) : IntKind.wrap .i64 n = n := by
  simp only [IntKind.wrap, IntKind.bits, IntKind.signed, Bool.true_and]
  have e1 : (2 : Int) ^ 64 = 18446744073709551616 := by decide
  have e2 : (2 : Int) ^ (64 - 1) = 9223372036854775808 := by decide
  simp only [e1, e2, decide_eq_true_eq]
  split <;> omega

theorem wrapF_eq (k : IntKind) (n : Int) : wrapF k n = k.wrap n := by
  unfold wrapF
  split
  · rename_i m
    split
    · rename_i h
      have h : m < 9223372036854775808 := by simpa using h
      have e : Int.ofNat m = (m : Int) := rfl
      exact (wrap_id (by rw [e]; omega) (by rw [e]; omega)).symm
    · rfl
  · rename_i m
    split
    · rename_i h
      have h : m < 9223372036854775808 := by simpa using h
      exact (wrap_id (by omega) (by omega)).symm
    · rfl
  · rename_i m
    simp only [IntKind.wrap, IntKind.bits, IntKind.signed, Bool.false_and]
    have e1 : (2 : Int) ^ 64 = 18446744073709551616 := by decide
    simp only [e1]
    rfl
  · rfl

section
variable {P : Program} {im : Im} {loc : Loc} {w : World}

theorem VR.int_inv {k : IntKind} {n : Int} {v : Value} (h : VR im loc (.int k n) v) : v = .int k n := by cases h; rfl
theorem VR.bool_inv {b : Bool} {v : Value} (h : VR im loc (.bool b) v) : v = .bool b := by cases h; rfl
theorem VR.str_inv {b : ByteArray} {v : Value} (h : VR im loc (.str b) v) : v = .string b := by cases h; rfl
theorem VR.agg_inv {cs : List PV} {v : Value} (h : VR im loc (.agg cs) v) : ∃ vs, v = .agg ⟨vs⟩ ∧ VRL im loc cs vs := by cases h with | agg _ vs h => exact ⟨vs, rfl, h⟩
theorem VR.tup_inv {cs : List PV} {v : Value} (h : VR im loc (.tup cs) v) : ∃ vs, v = .tuple ⟨vs⟩ ∧ VRL im loc cs vs := by cases h with | tup _ vs h => exact ⟨vs, rfl, h⟩

mutual
theorem cval_ok : ∀ {x : PV} {v : Value}, cval x v = true → VR im loc x v
  | .int k n, v, h => by
    cases v <;> simp only [cval] at h <;> first | cases h | skip
    simp only [Bool.and_eq_true, beq_iff_eq, kindEq_iff] at h
    obtain ⟨rfl, rfl⟩ := h; exact .int _ _
  | .bool a, v, h => by
    cases v <;> simp only [cval] at h <;> first | cases h | skip
    rename_i b; have : a = b := by simpa using h
    subst this; exact .bool _
  | .str a, v, h => by simp [cval] at h
  | .sl e c [], v, h => by
    cases v with
    | slice a n cap =>
      cases a with
      | none =>
        cases n with
        | zero =>
          cases cap with
          | zero => exact .sl e c [] none 0 (Nat.zero_le _) (fun _ => rfl) (fun hne => absurd rfl hne)
          | succ c => simp [cval] at h
        | succ n => simp [cval] at h
      | some a => simp [cval] at h
    | _ => simp [cval] at h
  | .sl e c (_ :: _), v, h => by simp [cval] at h
  | .agg cs, v, h => by
    cases v <;> simp only [cval] at h <;> first | cases h | skip
    rename_i vs
    exact .agg cs vs.toList (cvalL_ok h)
  | .nilf, v, h => by
    cases v <;> simp only [cval] at h <;> first | cases h | skip
    exact .nilf
  | .undef, v, _ => .undef v
  | .nul, v, h => by simp [cval] at h
  | .tup _, v, h => by simp [cval] at h
  | .own .., v, h => by simp [cval] at h
  | .ptr .., v, h => by simp [cval] at h
  | .rptr .., v, h => by simp [cval] at h
  | .mp _, v, h => by simp [cval] at h
  | .clo .., v, h => by simp [cval] at h
theorem cvalL_ok : ∀ {x : List PV} {v : List Value}, cvalL x v = true → VRL im loc x v
  | [], [], _ => .nil
  | x :: xs, v :: vs, h => by
    simp only [cvalL, Bool.and_eq_true] at h
    exact .cons _ _ _ _ (cval_ok h.1) (cvalL_ok h.2)
  | [], _ :: _, h => by simp [cvalL] at h
  | _ :: _, [], h => by simp [cvalL] at h
end

theorem ER.opd {e : Env} {a : Act} (h : ER im loc e a.tmps) {x : Opd} {o : Operand} (hc : chkOpd x o = true) : VR im loc (x.ev e) (a.eval o) := by
  unfold chkOpd at hc
  split at hc
  · rename_i n m
    have e : n = m := by simpa using hc
    subst e
    exact h _
  · exact cval_ok hc
  · rename_i f g
    have e : f = g := by simpa using hc
    subst e
    exact .clo _ [] [] [] [] .nil .nil
  · exact .undef _
  · cases hc

/-- 'binE'. -/
theorem run_bin {op : BinOp} {t : TypeId} {a b : Operand} {x y : PV} {u v : Value} {z : PV} (hx : VR im loc x u) (hy : VR im loc y v) (h : binE op x y = some z) :
    ∃ r, (do eqGuard op t a b u v; binOp op t u v : Sem Value).run P w = .ok r w ∧ VR im loc z r := by
  unfold binE at h
  split at h
  · rename_i k a l b
    obtain rfl := hx.int_inv
    obtain rfl := hy.int_inv
    have hg : ∀ (k l : IntKind) (a b : Int) (o p : Operand), (eqGuard op t o p (.int k a) (.int l b)).run P w = .ok () w := by
      intros; unfold eqGuard; cases op <;> simp
    split at h
    · simp only [shiftI] at h
      split at h
      · cases h
      · rename_i hb
        injection h with h; subst h
        refine ⟨_, ?_, .int _ _⟩
        simp only [Sem.run_bind, hg, Result.andThen_ok, binOp, Op.shift, hb, if_false]
        rfl
    · simp only [shiftI] at h
      split at h
      · cases h
      · rename_i hb
        injection h with h; subst h
        refine ⟨_, ?_, .int _ _⟩
        simp only [Sem.run_bind, hg, Result.andThen_ok, binOp, Op.shift, hb, if_false]
        rfl
    · split at h
      · rename_i hshl hshr hk
        have := kindEq_iff.1 hk; subst this
        unfold arith at h
        split at h
        all_goals first
          | (injection h with h; subst h
             first
               | (refine ⟨_, ?_, .int _ _⟩
                  simp only [Sem.run_bind, hg, Result.andThen_ok, binOp, Op.intArith, Op.intBits, wrapF_eq, ne_eq, not_true_eq_false, if_false]
                  rfl)
               | (refine ⟨_, ?_, .bool _⟩
                  simp only [Sem.run_bind, hg, Result.andThen_ok, binOp, Op.intCmp, ne_eq, not_true_eq_false, if_false]
                  rfl))
          | (split at h
             · cases h
             · rename_i hb
               injection h with h; subst h
               refine ⟨_, ?_, .int _ _⟩
               simp only [Sem.run_bind, hg, Result.andThen_ok, binOp, Op.intDiv, wrapF_eq, ne_eq, not_true_eq_false, if_false, hb]
               rfl)
          | cases h
      · cases h
  · cases h

theorem run_binb {neg : Bool} {op : BinOp} {t : TypeId} {p q : Operand} {a b : Bool} (ho : op = if neg then .neq else .eql) (ht : P.underlying t = some .bool) :
    (do eqGuard op t p q (.bool a) (.bool b); binOp op t (.bool a) (.bool b) : Sem Value).run P w = .ok (.bool (if neg then !(a == b) else a == b)) w := by
  have h1 : (Op.equal t (.bool a) (.bool b)).run P w = .ok (a == b) w := run_equalIn_bool' w 9999 t a b ht
  cases neg <;> simp only [Bool.false_eq_true, if_false, if_true] at ho <;> subst ho <;> simp [eqGuard, binOp, h1]

theorem run_un {op : UnOp} {x z : PV} {u : Value} (hx : VR im loc x u) (h : unE op x = some z) : ∃ r, (Op.unary op u).run P w = .ok r w ∧ VR im loc z r := by
  unfold unE at h
  split at h
  · injection h with h; subst h
    obtain rfl := hx.int_inv
    exact ⟨_, rfl, by rw [wrapF_eq]; exact .int _ _⟩
  · injection h with h; subst h
    obtain rfl := hx.bool_inv
    exact ⟨_, rfl, .bool _⟩
  · cases h

theorem run_conv {s d : TypeId} {k k' : IntKind} {n : Int} {ds : TypeDesc} (hs : P.underlying s = some ds) (hd : P.underlying d = some (.int k)) :
    (convert s d (.int k' n)).run P w = .ok (.int k (wrapF k n)) w := by
  simp only [convert, Sem.run_bind, run_underlying hs, run_underlying hd, Result.andThen_ok, wrapF_eq]
  cases ds <;> rfl

theorem isAgg_row {t : TypeId} (h : isRowT P t = true) : (isAgg t).run P w = .ok true w := by
  unfold isRowT at h
  split at h
  · rename_i f hu; simp [isAgg, run_underlying hu]
  · rename_i n f hu; simp [isAgg, run_underlying hu]
  · cases h

theorem isAgg_one {t : TypeId} (hs : (P.underlying t).isSome = true) (h : isRowT P t = false) : (isAgg t).run P w = .ok false w := by
  cases hu : P.underlying t with
  | none => rw [hu] at hs; cases hs
  | some d =>
    unfold isRowT at h
    rw [hu] at h
    cases d <;> first | (simp [isAgg, run_underlying hu]; done) | cases h

theorem szIs_run {t : TypeId} {n : Nat} (h : szIs P t n = true) : (sizeOf t).run P w = .ok n w := by
  unfold szIs at h
  cases hi : P.info? t with
  | none => rw [hi] at h; cases h
  | some i =>
    rw [hi] at h
    have : i.size = n := by simpa using h
    simp [sizeOf, typeInfo, hi, this]

theorem part_agg {agg : Option Nat} {t : TypeId} {off : Nat} {cs : List PV} {vs : List Value} {x : PV} (ha : aggIs P t agg = true) (h : VRL im loc cs vs)
    (hp : part agg off cs = some x) : ∃ v, (Go.part t ⟨vs⟩ off).run P w = .ok v w ∧ VR im loc x v := by
  unfold aggIs at ha
  simp only [Bool.and_eq_true] at ha
  obtain ⟨hs, ha⟩ := ha
  cases agg with
  | some n =>
    simp only [Bool.and_eq_true] at ha
    simp only [part] at hp
    split at hp
    · rename_i hle
      injection hp with hp; subst hp
      refine ⟨.agg ⟨(vs.drop off).take n⟩, ?_, .agg _ _ ((h.drop off).take n)⟩
      simp only [Go.part, Sem.run_bind, isAgg_row ha.1, Result.andThen_ok, if_true, szIs_run ha.2, Sem.run_pure]
      congr 2
      apply Array.ext'
      simp [List.extract_eq_take_drop]
    · cases hp
  | none =>
    simp only [Bool.and_eq_true, Bool.not_eq_true'] at ha
    simp only [part] at hp
    obtain ⟨v, hv, hr⟩ := h.get off x hp
    refine ⟨v, ?_, hr⟩
    simp only [Go.part, Sem.run_bind, isAgg_one hs ha.1, Result.andThen_ok, Bool.false_eq_true, if_false]
    have : (⟨vs⟩ : Array Value)[off]? = some v := by simpa using hv
    simp [this]

theorem loadVar_part {agg : Option Nat} {t : TypeId} {b o off : Nat} {cs : List PV} {vs : List Value} {x : PV} (ha : aggIs P t agg = true) (h : VRL im loc cs vs)
    (hm : ∀ (j : Nat) (v : Value), vs[j]? = some v → w.cell? ⟨b, o + j, none⟩ = some v)
    (hp : part agg off cs = some x) : ∃ v, (loadVar t ⟨b, o + off, none⟩).run P w = .ok v w ∧ VR im loc x v := by
  unfold aggIs at ha
  simp only [Bool.and_eq_true] at ha
  obtain ⟨hs, ha⟩ := ha
  have hadd : ∀ k j : Nat, (⟨b, k, none⟩ : Addr).add j = ⟨b, k + j, none⟩ := by
    intro k j; unfold Addr.add; split
    · rename_i h; subst h; rfl
    · rfl
  cases agg with
  | some n =>
    simp only [Bool.and_eq_true] at ha
    simp only [part] at hp
    split at hp
    · rename_i hle
      injection hp with hp; subst hp
      refine ⟨.agg ⟨(vs.drop off).take n⟩, ?_, .agg _ _ ((h.drop off).take n)⟩
      have hl : ((vs.drop off).take n).length = n := by
        have := h.length
        simp; omega
      have := run_loadCells_list (P := P) w ⟨b, o + off, none⟩ ((vs.drop off).take n) (by
        intro j v hj
        rw [hadd]
        have hj' : j < n := by
          rcases Nat.lt_or_ge j n with h | h
          · exact h
          · rw [List.getElem?_eq_none (by omega)] at hj; cases hj
        rw [List.getElem?_take_of_lt hj', List.getElem?_drop] at hj
        have := hm _ _ hj
        rwa [show o + (off + j) = o + off + j by omega] at this)
      rw [hl] at this
      simp only [loadVar, Sem.run_bind, isAgg_row ha.1, Result.andThen_ok, if_true, szIs_run ha.2, this, Sem.run_pure]
    · cases hp
  | none =>
    simp only [Bool.and_eq_true, Bool.not_eq_true'] at ha
    simp only [part] at hp
    obtain ⟨v, hv, hr⟩ := h.get off x hp
    refine ⟨v, ?_, hr⟩
    simp only [loadVar, Sem.run_bind, isAgg_one hs ha.1, Result.andThen_ok, Bool.false_eq_true, if_false]
    rw [run_load, hm off v hv]

end
end Go.Vm
