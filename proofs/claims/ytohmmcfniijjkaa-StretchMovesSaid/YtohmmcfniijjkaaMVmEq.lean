/- Two aggregates of plain cells are compared cell by cell. -/
import Derived.Test.YtohmmcfniijjkaaMVmOps9
namespace Go.Vm

theorem eqCells_append : ∀ (a b c d : List PV), a.length = b.length → eqCells (a ++ c) (b ++ d) = match eqCells a b with | some true => eqCells c d | x => x
  | [], [], c, d, _ => by simp [eqCells]
  | x :: xs, y :: ys, c, d, h => by
    simp only [List.cons_append, eqCells]
    cases eqCell x y with
    | none => rfl
    | some r =>
      cases r with
      | false => rfl
      | true => exact eqCells_append xs ys c d (by simpa using h)
  | [], _ :: _, _, _, h => by simp at h
  | _ :: _, [], _, _, h => by simp at h

section
variable {P : Program} {im : Im} {loc : Loc} {w : World}

def whole (P : Program) (t : TypeId) (us : List Value) : Value := if isRowT P t then .agg ⟨us⟩ else us.getD 0 Go.undef

def flatStep (P : Program) (d : Nat) (r : Option Nat) (f : Field) : Option Nat :=
  match r with
  | some n => if f.offset == n && f.name != "_" then (match flat P d f.type with
    | some m => if szIs P f.type m then some (n + m) else none
    | none => none) else none
  | none => none

theorem flatStep_none {d : Nat} : ∀ (fs : List Field), fs.foldl (flatStep P d) none = none
  | [] => rfl
  | f :: fs => by rw [List.foldl_cons]; exact flatStep_none fs

theorem flat_one_row {d : Nat} {t : TypeId} {n : Nat} (h : flat P d t = some n) (hr : isRowT P t = false) : n = 1 := by
  cases d with
  | zero => cases h
  | succ d =>
    simp only [flat] at h
    split at h
    · split at h
      · injection h with h; exact h.symm
      · cases h
    · rename_i fs hu
      unfold isRowT at hr; rw [hu] at hr; cases hr
    · cases h

theorem part_whole {d : Nat} {t : TypeId} {m k : Nat} {us : List Value} (h : flat P d t = some m) (hs : szIs P t m = true) (hk : k + m ≤ us.length) (hsome : (P.underlying t).isSome = true) :
    (Go.part t ⟨us⟩ k).run P w = .ok (whole P t ((us.drop k).take m)) w := by
  unfold whole
  cases hr : isRowT P t with
  | true =>
    simp only [Go.part, Sem.run_bind, isAgg_row hr, Result.andThen_ok, if_true, szIs_run hs, Sem.run_pure]
    congr 2
    apply Array.ext'
    simp [List.extract_eq_take_drop]
  | false =>
    have h1 := flat_one_row h hr
    subst h1
    simp only [Go.part, Sem.run_bind, isAgg_one hsome hr, Result.andThen_ok, Bool.false_eq_true, if_false]
    have hlt : k < us.length := by omega
    have : (⟨us⟩ : Array Value)[k]? = some us[k] := by simp [hlt]
    rw [this]
    simp [List.getD, hlt]

theorem flat_some {d : Nat} {t : TypeId} {n : Nat} (h : flat P d t = some n) : (P.underlying t).isSome = true := by
  cases d with
  | zero => cases h
  | succ d =>
    simp only [flat] at h
    cases hu : P.underlying t with
    | none => rw [hu] at h; cases h
    | some _ => rfl

theorem foldl_ge {d : Nat} : ∀ {fs : List Field} {k n : Nat}, fs.foldl (flatStep P d) (some k) = some n → k ≤ n
  | [], k, n, h => by simp at h; omega
  | f :: fs, k, n, h => by
    rw [List.foldl_cons] at h
    cases hs : flatStep P d (some k) f with
    | none => rw [hs, flatStep_none] at h; cases h
    | some k' =>
      rw [hs] at h
      have := foldl_ge h
      unfold flatStep at hs
      dsimp only at hs
      split at hs
      · split at hs
        · split at hs
          · injection hs with hs; omega
          · cases hs
        · cases hs
      · cases hs

theorem flat_eq : ∀ (d : Nat) (t : TypeId) (n : Nat), flat P d t = some n → ∀ (D : Nat), d ≤ D → ∀ (xs ys : List PV) (us vs : List Value) (b : Bool), VRL im loc xs us → VRL im loc ys vs → xs.length = n → ys.length = n →
    eqCells xs ys = some b → (Op.equalIn D t (whole P t us) (whole P t vs)).run P w = .ok b w
  | 0, t, n, h, _, _, _, _, _, _, _, _, _, _, _, _ => by cases h
  | d + 1, t, n, h, 0, hD, _, _, _, _, _, _, _, _, _, _ => by omega
  | d + 1, t, n, h, D + 1, hD, xs, ys, us, vs, b, hx, hy, hxn, hyn, he => by
    have hscalar : isRowT P t = false → n = 1 → ∃ x y u v, xs = [x] ∧ ys = [y] ∧ us = [u] ∧ vs = [v] ∧ VR im loc x u ∧ VR im loc y v ∧ eqCell x y = some b := by
      intro hr h1
      subst h1
      match xs, us, ys, vs, hx, hy, hxn, hyn, he with
      | [x], [u], [y], [v], .cons _ _ _ _ h1 _, .cons _ _ _ _ h2 _, _, _, he =>
        refine ⟨x, y, u, v, rfl, rfl, rfl, rfl, h1, h2, ?_⟩
        simp only [eqCells] at he
        cases hc : eqCell x y with
        | none => rw [hc] at he; cases he
        | some r => rw [hc] at he; cases r <;> simpa using he
    simp only [flat] at h
    split at h
    · rename_i k hu
      have hr : isRowT P t = false := by unfold isRowT; rw [hu]
      split at h
      · injection h with h
        obtain ⟨x, y, u, v, rfl, rfl, rfl, rfl, h1, h2, h3⟩ := hscalar hr h.symm
        simp only [whole, hr, Bool.false_eq_true, if_false, List.getD, List.getElem?_cons_zero, Option.getD_some]
        unfold eqCell at h3
        split at h3
        · split at h3
          · rename_i hk
            have := kindEq_iff.1 hk; subst this
            injection h3 with h3; subst h3
            rw [h1.int_inv, h2.int_inv]
            exact run_equalIn_int w D t _ _ _ _ hu
          · cases h3
        · cases h3
      · cases h
    · rename_i fs hu
      have hr : isRowT P t = true := by unfold isRowT; rw [hu]
      split at h
      · cases h
      · rename_i hst
        have hf : P.fieldsOf t = fs := by simp [Program.fieldsOf, hu]
        have hst : P.stoodInHeld t = false := by simpa using hst
        have hxl := hx.length
        have hyl := hy.length
        simp only [whole, hr, if_true]
        rw [run_equalIn_agg w D t _ _ (by rw [hf]; exact hu) hst, hf]
        change (match fs.toList.foldl (flatStep P d) (some 0) with | some n => if szIs P t n then some n else none | none => none) = some n at h
        cases hfo : fs.toList.foldl (flatStep P d) (some 0) with
        | none => rw [hfo] at h; cases h
        | some n' =>
          rw [hfo] at h
          dsimp only at h
          split at h
          · injection h with h
            subst h
            have key : ∀ (l : List Field) (k : Nat), l.foldl (flatStep P d) (some k) = some n' → ∀ (b' : Bool), eqCells (xs.drop k) (ys.drop k) = some b' →
                (Op.eqFields D ⟨us⟩ ⟨vs⟩ l).run P w = .ok b' w := by
              intro l
              induction l with
              | nil =>
                intro k hk b' hb'
                simp only [List.foldl_nil, Option.some.injEq] at hk
                subst hk
                rw [List.drop_eq_nil_of_le (by omega), List.drop_eq_nil_of_le (by omega)] at hb'
                simp only [eqCells, Option.some.injEq] at hb'
                subst hb'
                simp [Op.eqFields]
              | cons f l ih =>
                intro k hk b' hb'
                rw [List.foldl_cons] at hk
                cases hs : flatStep P d (some k) f with
                | none => rw [hs, flatStep_none] at hk; cases hk
                | some k' =>
                  rw [hs] at hk
                  have hge := foldl_ge hk
                  unfold flatStep at hs
                  dsimp only at hs
                  split at hs
                  · rename_i hc
                    simp only [Bool.and_eq_true, beq_iff_eq, bne_iff_ne, ne_eq] at hc
                    split at hs
                    · rename_i m hm
                      split at hs
                      · rename_i hsz
                        injection hs with hs
                        subst hs
                        have hsome := flat_some hm
                        have e1 : xs.drop k = (xs.drop k).take m ++ xs.drop (k + m) := by rw [← List.drop_drop, List.take_append_drop]
                        have e2 : ys.drop k = (ys.drop k).take m ++ ys.drop (k + m) := by rw [← List.drop_drop, List.take_append_drop]
                        rw [e1, e2, eqCells_append _ _ _ _ (by simp; omega)] at hb'
                        have hne : f.name ≠ "_" := hc.2
                        simp only [Op.eqFields, Sem.run_bind, hne, ne_eq, not_false_eq_true, if_true, hc.1]
                        rw [part_whole (w := w) hm hsz (by omega) hsome]
                        simp only [Result.andThen_ok]
                        rw [part_whole (w := w) hm hsz (by omega) hsome]
                        simp only [Result.andThen_ok]
                        cases hq : eqCells ((xs.drop k).take m) ((ys.drop k).take m) with
                        | none => rw [hq] at hb'; cases hb'
                        | some r =>
                          have hrec := flat_eq d f.type m hm D (by omega) _ _ _ _ r ((hx.drop k).take m) ((hy.drop k).take m) (by simp; omega) (by simp; omega) hq
                          rw [hrec]
                          simp only [Result.andThen_ok]
                          rw [hq] at hb'
                          cases r with
                          | false =>
                            simp only [Option.some.injEq] at hb'
                            subst hb'
                            simp
                          | true =>
                            dsimp only at hb'
                            have := ih (k + m) hk b' hb'
                            simpa using this
                      · cases hs
                    · cases hs
                  · cases hs
            exact key fs.toList 0 hfo b (by simpa using he)
          · cases h
    · cases h

end
end Go.Vm
