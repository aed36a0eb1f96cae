/- The head of a loop. -/
import Derived.Test.YtohmmcfniijjkaaMVmNorm
namespace Go.Vm

/-- The blocks that are added: empty. -/
def EmptyBlks (s2 : Sto) : Prop := ∀ (j : Nat) (k : Blk), s2[j]? = some k → ∃ e, k = .arr e []

theorem liveEnv_ok {im : Im} {loc loc1 : Loc} {m : List Nat} {e : Env} {tmps : Array Value} (hm : Ren m loc loc1) (he : ER im loc e tmps) : ∀ {live : List (Nat × Option Nat)} {nx : Nat} {e1 : Env} {s2 : Sto}, liveEnv e m nx live = some (e1, s2) →
    EmptyBlks s2 ∧ ((∀ (j : Nat) (esz : Nat), s2[j]? = some (.arr esz []) → loc1 (nx + j) = some ⟨0, 0, esz, 0, 0⟩) → ER im loc1 e1 tmps)
  | [], nx, e1, s2, h => by
    simp only [liveEnv, Option.some.injEq, Prod.mk.injEq] at h
    obtain ⟨rfl, rfl⟩ := h
    exact ⟨fun j k h => by simp at h, fun _ t => .undef _⟩
  | (s, k) :: r, nx, e1, s2, h => by
    have hs := he s
    simp only [liveEnv] at h
    split at h
    · rename_i esz e' hlk
      rw [Option.map_eq_some_iff] at h
      obtain ⟨⟨e2, s3⟩, h1, h2⟩ := h
      simp only [Prod.mk.injEq] at h2
      obtain ⟨rfl, rfl⟩ := h2
      obtain ⟨g1, g2⟩ := liveEnv_ok hm he h1
      refine ⟨fun j k hj => ?_, fun hl t => ?_⟩
      · cases j with
        | zero => simp at hj; exact ⟨_, hj.symm⟩
        | succ j => exact g1 j k (by simpa using hj)
      · rw [lk_cons]
        split
        · rename_i e; subst e
          rw [hlk] at hs
          generalize hg : tmps.getD s Go.undef = v at hs
          cases hs with
          | sl _ _ _ a cap h1 h2 h3 =>
          have : cap = 0 := by simpa using h2 rfl
          subst this
          exact .own nx esz 0 0 0 false ⟨0, 0, esz, 0, 0⟩ a 0 (by simpa using hl 0 esz rfl) rfl (Nat.le_refl _) (Nat.le_refl _) (Nat.le_refl _) (fun h => by cases h) (.inl rfl)
        · refine g2 (fun j esz' hj => ?_) t
          have := hl (j + 1) esz' (by simpa using hj)
          rw [show nx + 1 + j = nx + (j + 1) by omega]; exact this
    · split at h
      · rename_i v' p h1 h2
        injection h with h
        simp only [Prod.mk.injEq] at h
        obtain ⟨rfl, rfl⟩ := h
        obtain ⟨g1, g2⟩ := liveEnv_ok hm he (e1 := p.1) (s2 := p.2) h2
        refine ⟨g1, fun hl t => ?_⟩
        rw [lk_cons]
        split
        · rename_i e; subst e
          exact ren_ok hm hs h1
        · exact g2 hl t
      · cases h

theorem norm_ok {im0 im : Im} {loc0 loc : Loc} {sto0 : Sto} {w0 w : World} {nt : Nat} {live : List (Nat × Option Nat)} {st st1 : St} {a : Act} (h : norm live st = some st1) (hk : KeptF im0 loc0 sto0 w0 st im loc w) (ha : ActOK im loc nt st a) :
    ∃ loc1, KeptF im0 loc0 sto0 w0 st1 im loc1 w ∧ ActOK im loc1 nt st1 a := by
  unfold norm at h
  split at h
  · cases h
  · rename_i m hreach
    split at h
    · rename_i s1 e1 s2 hs1 hlv
      injection h with h
      subst h
      obtain ⟨⟨ml, hml⟩, hnd⟩ := reach_ok hreach
      have hnd := hnd (upTo_nodup _)
      obtain ⟨hl1, hget⟩ := renSto_ok hs1
      have hupl : ∀ n, (upTo n).length = n := by
        intro n; induction n with
        | zero => rfl
        | succ n ih => simp [upTo, ih]
      have hid : ∀ t, t < st.kn → m[t]? = some t := by
        intro t ht
        rw [hml, List.getElem?_append_left (by rw [hupl]; exact ht)]
        exact upTo_get ht
      have hmlen : st.kn ≤ m.length := by rw [hml]; simp [hupl]
      let loc1 : Loc := fun u => if u < m.length then (match m[u]? with | some t => loc t | none => none) else match s2[u - m.length]? with
        | some (.arr e []) => some ⟨0, 0, e, 0, 0⟩
        | _ => none
      have hren : Ren m loc loc1 := by
        intro u t hu
        have := lt_of_get hu
        simp only [loc1, this, if_true, hu]
      obtain ⟨hemp, her⟩ := liveEnv_ok hren ha.env hlv
      have old : ∀ u li, loc1 u = some li → u < m.length → ∃ t, m[u]? = some t ∧ loc t = some li := by
        intro u li hl hu
        have e := List.getElem?_eq_getElem hu
        rw [hren u _ e] at hl
        exact ⟨_, e, hl⟩
      have stoL : ∀ u, u < m.length → (s1 ++ s2)[u]? = s1[u]? := fun u hu => List.getElem?_append_left (by rw [hl1]; exact hu)
      have stoR : ∀ u, ¬ u < m.length → (s1 ++ s2)[u]? = s2[u - m.length]? := fun u hu => by rw [List.getElem?_append_right (by rw [hl1]; omega), hl1]
      have solid_old : ∀ (u : Nat) (k : Blk), (s1 ++ s2)[u]? = some k → k.solid = true → u < m.length := by
        intro u k hs hsol
        rcases Nat.lt_or_ge u m.length with h | h
        · exact h
        · rw [stoR u (by omega)] at hs
          obtain ⟨e, rfl⟩ := hemp _ _ hs
          cases hsol
      have back : ∀ (u : Nat) (k : Blk), (s1 ++ s2)[u]? = some k → ∀ t, m[u]? = some t → ∃ k0 : Blk, st.sto[t]? = some k0 ∧ k.solid = k0.solid := by
        intro u k hs t ht
        obtain ⟨k0, k', g1, g2, g3⟩ := hget u t ht
        rw [stoL u (lt_of_get ht), g3] at hs
        injection hs with hs; subst hs
        exact ⟨k0, g1, renBlk_solid g2⟩
      have sr := hk.kept.sr
      have keptsr : SR im loc1 (s1 ++ s2) (renFz st.fz 0 m) w := by
        refine {
          im_ok := sr.im_ok
          blk := fun u li hl => ?_
          excl := fun u u' li lj k k' hl hl' hs hs' hsol hsol' hb => ?_
          free := fun u li k hl hs hsol hz => ?_ }
        · by_cases hu : u < m.length
          · obtain ⟨t, ht, hlt⟩ := old u li hl hu
            obtain ⟨k0, h1, h2⟩ := sr.blk t li hlt
            obtain ⟨k1, k', g1, g2, g3⟩ := hget u t ht
            rw [h1] at g1; injection g1 with g1; subst g1
            exact ⟨k', by rw [stoL u hu]; exact g3, renBlk_ok hren g2 h2⟩
          · simp only [loc1, hu, if_false] at hl
            split at hl
            · rename_i e he
              injection hl with hl; subst hl
              exact ⟨.arr e [], by rw [stoR u hu]; exact he, rfl, rfl, fun h => absurd rfl h⟩
            · cases hl
        · have hu := solid_old u k hs hsol
          have hu' := solid_old u' k' hs' hsol'
          obtain ⟨t, ht, hlt⟩ := old u li hl hu
          obtain ⟨t', ht', hlt'⟩ := old u' lj hl' hu'
          obtain ⟨k0, g1, g2⟩ := back u k hs t ht
          obtain ⟨k0', g1', g2'⟩ := back u' k' hs' t' ht'
          have := sr.excl t t' li lj k0 k0' hlt hlt' g1 g1' (by rw [← g2]; exact hsol) (by rw [← g2']; exact hsol') hb
          subst this
          have pw := List.pairwise_iff_getElem.1 hnd
          have e1 := (List.getElem?_eq_some_iff.1 ht).2
          have e2 := (List.getElem?_eq_some_iff.1 ht').2
          rcases Nat.lt_trichotomy u u' with h | h | h
          · exact absurd (e1.trans e2.symm) (pw u u' hu hu' h)
          · exact h
          · exact absurd (e2.trans e1.symm) (pw u' u hu' hu h)
        · have hu := solid_old u k hs hsol
          obtain ⟨t, ht, hlt⟩ := old u li hl hu
          obtain ⟨k0, g1, g2⟩ := back u k hs t ht
          refine sr.free t li k0 hlt g1 (by rw [← g2]; exact hsol) (has_false.2 ?_)
          exact renFz_ok (i0 := 0) ht (by have := has_false.1 hz; simpa using this)
      refine ⟨loc1, ⟨⟨keptsr, hk.kept.imle, fun t li hl => ?_, hk.kept.os, hk.kept.tape, hk.kept.output, hk.kept.size, hk.kept.frame, hk.kept.imnew, fun t li hl => ?_, fun u li k hl hs hsol => ?_⟩, hk.kn, ?_, hk.dom⟩,
        ⟨her fun j esz hj => ?_, ha.defers, ha.nts⟩⟩
      · have h1 := hk.kept.locle t li hl
        have ht : t < st.kn := by rw [hk.kn]; exact hk.dom t li hl
        rw [hren t t (hid t ht)]; exact h1
      · rcases Nat.lt_or_ge t st.kn with ht | ht
        · rw [hren t t (hid t ht)] at hl
          exact hk.kept.locs t li hl
        · right; rw [hk.kn] at ht; exact ht
      · have hu := solid_old u k hs hsol
        obtain ⟨t, ht, hlt⟩ := old u li hl hu
        obtain ⟨k0, g1, g2⟩ := back u k hs t ht
        exact hk.kept.own t li k0 hlt g1 (by rw [← g2]; exact hsol)
      · rw [← hk.kn]
        simp only [List.length_append]; omega
      · simp only [loc1, show ¬ m.length + j < m.length by omega, if_false, show m.length + j - m.length = j by omega, hj]
    · exact (by cases h)

end Go.Vm
