/- Operation by operation: all that call nothing. -/
import Derived.Test.YtohmmcfniijjkaaMVmOps8
namespace Go.Vm

/-- What an operation that calls nothing comes to. -/
def OpSim (P : Program) (ρ : Operand → Value) (o : Oper) (im : Im) (loc : Loc) (sto : Sto) (w : World) (r : Res) : Prop :=
  ∃ nx w' loc', (execOp ρ o).run P w = .ok nx w' ∧ ((nx = .skip ∧ r.v = .undef) ∨ ∃ v, nx = .value v ∧ VR im loc' r.v v) ∧ Eff im loc sto w r im loc' w'

section
variable {P : Program} {im : Im} {loc : Loc} {sto : Sto} {fz : List Nat} {w : World} {e : Env} {ρ : Operand → Value}

theorem OpSim.pure {o : Oper} {r : Res} {v : Value} (hk : Known im loc sto w r) (hn : r.news = []) (hw : r.wr = []) (h : (execOp ρ o).run P w = .ok (.value v) w) (hv : VR im loc r.v v) :
    OpSim P ρ o im loc sto w r := ⟨_, w, loc, h, .inr ⟨v, rfl, hv⟩, Eff.none hk hn hw⟩

theorem matches_bool {t : TypeId} (h : (P.underlying t matches some .bool) = true) : P.underlying t = some .bool := by
  split at h
  · assumption
  · cases h

theorem chkOpo_bound {x : Option Opd} {o : Option Operand} {n : Option Nat} (hρ : ∀ y ∈ x.toList, ∀ o, chkOpd y o = true → VR im loc (y.ev e) (ρ o)) (hc : chkOpo x o = true)
    (h : (match (generalizing := false) x with | none => some none | some a => (asNat (a.ev e)).map some) = some n) : BoundV (o.map ρ) n := by
  cases x with
  | none =>
    cases o with
    | none => injection h with h; subst h; trivial
    | some o => cases hc
  | some a =>
    cases o with
    | none => cases hc
    | some o =>
      simp only [Option.map_eq_some_iff] at h
      obtain ⟨m, hm, rfl⟩ := h
      exact asNat_inv (hρ a (by simp) o hc) hm

theorem run_sliceAt {t el : TypeId} {esz : Nat} {a : Option Addr} {len cap l h m : Nat} {vl vh vm : Option Value} (hu : P.underlying t = some (.slice el)) (hs : szIs P el esz = true)
    (hb : (Instr.sliceBounds true len cap vl vh vm).run P w = .ok (l, h, m) w) :
    (Instr.sliceAt t (.slice a len cap) vl vh vm).run P w = .ok (.slice (if m = l then a else a.map (·.add (l * esz))) (h - l) (m - l)) w := by
  simp only [Instr.sliceAt, Sem.run_bind, run_underlying hu, Result.andThen_ok, Instr.slice, hb, szIs_run hs, Sem.run_pure]

theorem sim_slice {t el : TypeId} {esz : Nat} {x z : PV} {u : Value} {lo hi mx : Option Nat} {vl vh vm : Option Value} (hx : VR im loc x u) (hu : P.underlying t = some (.slice el)) (hs : szIs P el esz = true)
    (h1 : BoundV vl lo) (h2 : BoundV vh hi) (h3 : BoundV vm mx) (hm : mx.isSome = true → hi.isSome = true) (hesz : ∀ e c r, x = .sl e c r → r = [] ∨ e = esz) (hesz2 : ∀ tk e o l c ex, x = .own tk e o l c ex → e = esz)
    (h : sliceE x lo hi mx = some z) : ∃ v, (Instr.sliceAt t u vl vh vm).run P w = .ok v w ∧ VR im loc z v := by
  unfold sliceE at h
  cases x with
  | sl e clip rows =>
    obtain ⟨a, cap, rfl, hcap, hck, hrows⟩ := hx.sl_inv
    dsimp only at h
    have sub : ∀ (l h m : Nat) (clip' : Bool), l ≤ h → h ≤ rows.length → h ≤ m → m ≤ cap → (clip' = true → m = h) →
        VR im loc (.sl e clip' ((rows.drop l).take (h - l))) (.slice (if m = l then a else a.map (·.add (l * esz))) (h - l) (m - l)) := by
      intro l h m clip' hlh hhr hhm hmc hcl
      have hlen : ((rows.drop l).take (h - l)).length = h - l := by simp; omega
      have := VR.sl (im := im) (loc := loc) e clip' ((rows.drop l).take (h - l)) (if m = l then a else a.map (·.add (l * esz))) (m - l) (by omega) (fun hc => by have := hcl hc; omega) (fun hne => by
        have hlt : l < h := by
          rcases Nat.lt_or_ge l h with h' | h'
          · exact h'
          · exfalso; apply hne; rw [show h - l = 0 by omega]; simp
        have hrne : rows ≠ [] := by intro e; subst e; simp at hhr; omega
        obtain ⟨b, o, rfl, hat⟩ := hrows hrne
        have he : e = esz := (hesz e clip rows rfl).resolve_left hrne
        subst he
        refine ⟨b, o + l * e, ?_, (hat.drop l).take _⟩
        rw [if_neg (by omega)]
        simp [add_at])
      rwa [hlen] at this
    cases mx with
    | none =>
      dsimp only at h
      split at h
      · rename_i hc
        simp only [Bool.and_eq_true, Nat.ble_eq] at hc
        injection h with h; subst h
        have hb := run_sliceBounds (P := P) (w := w) (len := rows.length) (cap := cap) h1 h2 h3 hm hc.1 (fun _ => by simp; omega) (by simp)
        simp only [Option.getD_none] at hb
        refine ⟨_, run_sliceAt hu hs hb, sub _ _ cap _ hc.1 hc.2 (by omega) (Nat.le_refl _) (fun hcl => ?_)⟩
        simp only [Bool.and_eq_true, Nat.beq_eq] at hcl
        have := hck hcl.1; omega
      · cases h
    | some m =>
      dsimp only at h
      split at h
      · rename_i hc
        simp only [Bool.and_eq_true, Nat.ble_eq] at hc
        injection h with h; subst h
        have hb := run_sliceBounds (P := P) (w := w) (len := rows.length) (cap := cap) h1 h2 h3 hm hc.1.1 (fun _ => hc.1.2) (by simp; omega)
        simp only [Option.getD_some] at hb
        refine ⟨_, run_sliceAt hu hs hb, sub _ _ m _ hc.1.1 (by omega) hc.1.2 (by omega) (fun hcl => ?_)⟩
        simp only [Nat.beq_eq] at hcl
        exact hcl.symm
      · cases h
  | own tk e off len cap ex =>
    obtain ⟨li, a, cap', rfl, hl, he, hoff, hlen, hcap, hex, hadr⟩ := hx.own_inv
    have hee := hesz2 tk e off len cap ex rfl
    subst hee
    dsimp only at h
    have sub : ∀ (l h c m m' : Nat) (ex' : Bool), l ≤ h → h ≤ m → m ≤ cap → m ≤ m' → m' ≤ cap' → (ex' = true → m' = m) →
        VR im loc (.own tk e (off + l) (h - l) (m - l) ex') (.slice (if m' = l then a else a.map (·.add (l * e))) (h - l) (m' - l)) := by
      intro l h c m m' ex' hlh hhm hmc hmm hmc' hex'
      refine .own tk e (off + l) (h - l) (m - l) ex' li _ (m' - l) hl he (by omega) (by omega) (by omega) (fun hx => by have := hex' hx; omega) ?_
      by_cases hml : m' = l
      · exact .inl (by omega)
      · rw [if_neg hml]
        rcases hadr with h0 | ⟨hn0, rfl, hfit⟩
        · exact .inl (by omega)
        · refine .inr ⟨hn0, ?_, ?_⟩
          · simp only [Option.map_some, add_at]; congr 2; rw [Nat.add_mul]; omega
          · have := Nat.mul_le_mul_right e (show off + l + (m' - l) ≤ off + cap' by omega)
            omega
    cases mx with
    | none =>
      dsimp only at h
      split at h
      · rename_i hc
        simp only [Bool.and_eq_true, Nat.ble_eq] at hc
        injection h with h; subst h
        have hb := run_sliceBounds (P := P) (w := w) (len := len) (cap := cap') h1 h2 h3 hm hc.1 (fun _ => by simp; omega) (by simp)
        simp only [Option.getD_none] at hb
        exact ⟨_, run_sliceAt hu hs hb, sub _ _ 0 cap cap' ex hc.1 hc.2 (Nat.le_refl _) hcap (Nat.le_refl _) hex⟩
      · cases h
    | some m =>
      dsimp only at h
      split at h
      · rename_i hc
        simp only [Bool.and_eq_true, Nat.ble_eq] at hc
        injection h with h; subst h
        have hb := run_sliceBounds (P := P) (w := w) (len := len) (cap := cap') h1 h2 h3 hm hc.1.1 (fun _ => hc.1.2) (by simp; omega)
        simp only [Option.getD_some] at hb
        exact ⟨_, run_sliceAt hu hs hb, sub _ _ 0 m m true hc.1.1 hc.1.2 hc.2 (Nat.le_refl _) (by omega) (fun _ => rfl)⟩
      · cases h
  | _ => cases h

end
end Go.Vm
