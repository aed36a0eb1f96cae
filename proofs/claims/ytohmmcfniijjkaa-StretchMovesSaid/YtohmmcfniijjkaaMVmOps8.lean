/- Operation by operation, last part: all of them. -/
import Derived.Test.YtohmmcfniijjkaaMVmOps7
namespace Go.Vm

def XOp.opds : XOp → List Opd
  | .mov x | .un _ x | .conv _ x | .len x | .box x | .load _ x | .nilc x | .fadr _ x | .fld _ _ x | .ext _ x => [x]
  | .pick a b c => [a, b, c]
  | .bin _ x y | .binb _ x y | .eqc _ _ x y | .store _ x y | .iadr _ x y | .iadra _ _ x y | .idx _ _ _ x y | .sidx x y | .mks _ _ x y | .append _ x y | .copy _ x y => [x, y]
  | .build _ ps => ps.map (·.2.2)
  | .mkrow _ _ _ ps => ps.map (·.2)
  | .slc _ x a b c => x :: (a.toList ++ b.toList ++ c.toList)
  | .mkf _ a b => a ++ b
  | .lookup _ _ m k => [m, k]
  | .mapu m k v => [m, k, v]
  | .clear _ _ x => [x]
  | .mm _ x xs => x :: xs
  | .call _ _ as => as
  | .callv x as => x :: as
  | .lenc _ | .alloc _ | .mkm | .bad => []

section
variable {P : Program} {im : Im} {loc : Loc} {sto : Sto} {fz : List Nat} {w : World} {e : Env} {ρ : Operand → Value}

theorem chkOpds_rel : ∀ {xs : List Opd} {os : List Operand}, (∀ x ∈ xs, ∀ o, chkOpd x o = true → VR im loc (x.ev e) (ρ o)) → chkOpds xs os = true → VRL im loc (evs e xs) (os.map ρ)
  | [], [], _, _ => .nil
  | x :: xs, o :: os, h, hc => by
    simp only [chkOpds, Bool.and_eq_true] at hc
    exact .cons _ _ _ _ (h x (by simp) o hc.1) (chkOpds_rel (fun y hy => h y (by simp [hy])) hc.2)
  | [], _ :: _, _, hc => by simp [chkOpds] at hc
  | _ :: _, [], _, hc => by simp [chkOpds] at hc

theorem chkParts_rel {place : Nat → Option (Nat × Nat)} : ∀ {ps : List (Nat × Nat × Opd)} {qs : List (Nat × Operand)}, (∀ x ∈ ps.map (·.2.2), ∀ o, chkOpd x o = true → VR im loc (x.ev e) (ρ o)) → chkParts place ps qs = true →
    PartsRel im loc place (ps.map fun p => (p.1, p.2.1, p.2.2.ev e)) (qs.map fun (i, x) => (i, ρ x))
  | [], [], _, _ => .nil
  | (off, sz, x) :: r, (i, o) :: s, h, hc => by
    simp only [chkParts, Bool.and_eq_true] at hc
    obtain ⟨⟨h1, h2⟩, h3⟩ := hc
    refine .cons off sz i _ _ _ _ ?_ (h x (by simp) o h2) (chkParts_rel (fun y hy => h y (by simp only [List.map_cons, List.mem_cons]; exact .inr hy)) h3)
    cases hp : place i with
    | none => rw [hp] at h1; cases h1
    | some q =>
      rw [hp] at h1
      simp only [Bool.and_eq_true, beq_iff_eq] at h1
      obtain ⟨rfl, rfl⟩ := h1
      rfl
  | [], _ :: _, _, hc => by simp [chkParts] at hc
  | _ :: _, [], _, hc => by simp [chkParts] at hc

theorem chkRowParts_rel : ∀ {ps : List (Nat × Opd)} {qs : List (Nat × Operand)}, (∀ x ∈ ps.map (·.2), ∀ o, chkOpd x o = true → VR im loc (x.ev e) (ρ o)) → chkRowParts ps qs = true →
    RowParts im loc (ps.map fun p => (p.1, p.2.ev e)) (qs.map fun (i, x) => (i, ρ x))
  | [], [], _, _ => .nil
  | (i, x) :: r, (j, o) :: s, h, hc => by
    simp only [chkRowParts, Bool.and_eq_true, beq_iff_eq] at hc
    obtain ⟨⟨rfl, h2⟩, h3⟩ := hc
    exact .cons i _ _ _ _ (h x (by simp) o h2) (chkRowParts_rel (fun y hy => h y (by simp only [List.map_cons, List.mem_cons]; exact .inr hy)) h3)
  | [], _ :: _, _, hc => by simp [chkRowParts] at hc
  | _ :: _, [], _, hc => by simp [chkRowParts] at hc

theorem zero_row {t : TypeId} {zero : Row} (h : zeroIs P t zero = true) (hp : zero.all PV.plain = true) :
    ∃ i z, P.info? t = some i ∧ i.zero = some z ∧ zero.length = z.cells.size ∧ ∀ (j : Nat) (c : PV), zero[j]? = some c → ∃ v, plainVal c = some v ∧ z.cells[j]? = some v := by
  unfold zeroIs at h
  cases hi : P.info? t with
  | none => rw [hi] at h; cases h
  | some i =>
    rw [hi] at h
    cases hz : i.zero with
    | none => simp [hz] at h
    | some z =>
      simp [hz] at h
      have hr : VRL (fun _ => none) (fun _ => none) zero z.cells.toList := cvalL_ok h
      refine ⟨i, z, rfl, hz, by simpa using hr.length, fun j c hc => ?_⟩
      obtain ⟨v, hv, hvv⟩ := hr.get j c hc
      refine ⟨v, hvv.plain ?_, by simpa using hv⟩
      have := List.all_eq_true.1 hp c (List.mem_of_getElem? hc)
      exact this

/-- New rows that the call owns. -/
theorem sim_newrows {esz n len cap : Nat} {rows : List Row} {vs : Array Value} {el : TypeId} {r : Res} (hr : r = { v := .own sto.length esz 0 len cap true, news := [.arr esz rows] }) (hk : Known im loc sto w r)
    (hat : RowsAt (fun k => vs[k]?) 0 esz rows) (hs : vs.size = n * esz) (hn : rows.length = n) (hc : cap = n) (hl : len ≤ cap) :
    ∃ loc', VR im loc' r.v (.slice (some ⟨w.heap.size, 0, none⟩) len cap) ∧ Eff im loc sto w r im loc' { w with heap := w.heap.push (.cells vs el) } := by
  subst hr hc
  let li : LI := ⟨w.heap.size, 0, esz, cap, vs.size⟩
  refine ⟨loc.set sto.length li, ?_, ?_⟩
  · refine .own sto.length esz 0 len cap true li _ cap (Loc.set_same _ _ _) rfl (by simp [li]) hl (Nat.le_refl _) (fun _ => rfl) ?_
    rcases Nat.eq_zero_or_pos cap with h | h
    · exact .inl h
    · exact .inr ⟨by simp [li]; omega, by simp [li], by simp [li, hs]⟩
  · exact Eff.new hk li rfl rfl rfl rfl rfl rfl rfl ⟨rfl, hn.symm, fun _ => ⟨vs, el, by simp [li], rfl, by simp [li, hs, hn], hat⟩⟩

theorem mm_fold {isMax : Bool} {k : IntKind} : ∀ {ys : List PV} {us : List Value}, VRL im loc ys us → ∀ {a : Int} {z : PV}, mmE isMax k a ys = some z →
    ∃ b, z = .int k b ∧ (us.foldlM (if isMax then Builtin.max2 else Builtin.min2) (.int k a)).run P w = .ok (.int k b) w
  | _, _, .nil, a, z, h => by
    simp only [mmE, Option.some.injEq] at h
    exact ⟨a, h.symm, rfl⟩
  | _, _, .cons y u ys us hy hs, a, z, h => by
    unfold mmE at h
    cases y with
    | int l c =>
      obtain rfl := hy.int_inv
      dsimp only at h
      cases hkl : kindEq k l with
      | false => rw [hkl] at h; cases h
      | true =>
        have := kindEq_iff.1 hkl; subst this
        rw [hkl, if_pos rfl] at h
        obtain ⟨b, hz, ih⟩ := mm_fold (isMax := isMax) hs h
        refine ⟨b, hz, ?_⟩
        rw [List.foldlM_cons, Sem.run_bind]
        cases isMax with
        | true => simp only [if_true] at ih ⊢; simp only [Builtin.max2, Sem.run_pure, Result.andThen_ok]; exact ih
        | false => simp only [Bool.false_eq_true, if_false] at ih ⊢; simp only [Builtin.min2, Sem.run_pure, Result.andThen_ok]; exact ih
    | _ => cases h

end
end Go.Vm
