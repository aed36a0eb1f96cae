/- What a function keeps from its beginning on; the head of a loop. -/
import Derived.Test.YtohmmcfniijjkaaMVmReg2
namespace Go.Vm

theorem Kept.trans {im0 im1 im2 : Im} {loc0 loc1 loc2 : Loc} {sto0 : Sto} {w0 w1 w2 : World} {st1 st2 : St} (h1 : Kept im0 loc0 sto0 w0 st1 im1 loc1 w1) (h2 : Kept im1 loc1 st1.sto w1 st2 im2 loc2 w2) (hl : sto0.length ≤ st1.sto.length) :
    Kept im0 loc0 sto0 w0 st2 im2 loc2 w2 where
  sr := h2.sr
  imle := h1.imle.trans h2.imle
  locle := h1.locle.trans h2.locle
  os := h2.os.trans h1.os
  tape := h2.tape.trans h1.tape
  output := h2.output.trans h1.output
  size := Nat.le_trans h1.size h2.size
  frame := fun b hb hh => by
    rw [h2.frame b (Nat.lt_of_lt_of_le hb h1.size) fun t li k hl hs hsol hbb => ?_]
    · exact h1.frame b hb hh
    · rcases h1.own t li k hl hs hsol with h | ⟨u, lu, ku, g1, g2, g3, g4⟩
      · omega
      · exact hh u lu ku g1 g2 g3 (by omega)
  imnew := fun b o hb => by
    rcases h2.imnew b o hb with h | h | ⟨t, li, k, g1, g2, g3, g4⟩
    · exact h1.imnew b o h
    · exact .inr (.inl (Nat.le_trans h1.size h))
    · rcases h1.own t li k g1 g2 g3 with h | ⟨u, lu, ku, k1, k2, k3, k4⟩
      · exact .inr (.inl (by omega))
      · exact .inr (.inr ⟨u, lu, ku, k1, k2, k3, by omega⟩)
  locs := fun t li h => by
    rcases h2.locs t li h with h | h
    · exact h1.locs t li h
    · exact .inr (Nat.le_trans hl h)
  own := fun t li k hl hs hsol => by
    rcases h2.own t li k hl hs hsol with h | ⟨u, lu, ku, g1, g2, g3, g4⟩
    · exact .inl (Nat.le_trans h1.size h)
    · rcases h1.own u lu ku g1 g2 g3 with h | ⟨u', lu', ku', k1, k2, k3, k4⟩
      · exact .inl (by omega)
      · exact .inr ⟨u', lu', ku', k1, k2, k3, by omega⟩

/-- .. since the function began. -/
structure KeptF (im0 : Im) (loc0 : Loc) (sto0 : Sto) (w0 : World) (st : St) (im : Im) (loc : Loc) (w : World) : Prop where
  kept : Kept im0 loc0 sto0 w0 st im loc w
  kn : st.kn = sto0.length
  len : sto0.length ≤ st.sto.length
  dom : ∀ t li, loc0 t = some li → t < sto0.length

theorem evOps_kn {F : Tab} {rec : Task → Option Out} : ∀ (ops : List XOper) (st : St) (tr : List Tr) (st' : St) (tr' : List Tr), evOps F rec ops st tr = some (st', tr') → st'.kn = st.kn
  | [], st, tr, st', tr', h => by simp only [evOps, Option.some.injEq, Prod.mk.injEq] at h; rw [h.1]
  | o :: l, st, tr, st', tr', h => by
    simp only [evOps] at h
    split at h
    · split at h
      · rename_i x hx
        split at h
        · have := evOps_kn l _ _ st' tr' h
          rw [this]; cases x <;> rfl
        · cases h
      · cases h
    · have := evOps_kn l _ _ st' tr' h
      exact this
    · cases h

theorem evRegion_len {F : Tab} {rec : Task → Option Out} {draw : Option (List Nat)} {ops : List XOper} {keep : List Nat} {st st' : St} (h : evRegion F rec draw ops keep st = some st') : st'.kn = st.kn ∧ st.sto.length ≤ st'.sto.length := by
  unfold evRegion at h
  cases he : evOps F rec ops st [] with
  | none => rw [he] at h; cases h
  | some q =>
    obtain ⟨st1, tr⟩ := q
    rw [he] at h
    dsimp only at h
    obtain ⟨S, X, h0, hn, hr, _⟩ := evOps_run ops st [] st1 tr he
    have h1 := evOps_kn ops st [] st1 tr he
    have h2 := hr.len_mono (Nat.zero_le ops.length) (Nat.le_refl _)
    rw [h0, hn] at h2
    cases draw with
    | none => dsimp only at h; injection h with h; subst h; exact ⟨h1, h2⟩
    | some bf =>
      dsimp only at h
      split at h
      · injection h with h; subst h; exact ⟨h1, h2⟩
      · cases h

/-! ### renaming -/

theorem idxOf_get {t : Nat} : ∀ {m : List Nat} {u : Nat}, idxOf t m = some u → m[u]? = some t
  | [], u, h => by simp [idxOf] at h
  | s :: r, u, h => by
    simp only [idxOf] at h
    split at h
    · rename_i e
      injection h with h; subst h
      have : s = t := by simpa using e
      simp [this]
    · rw [Option.map_eq_some_iff] at h
      obtain ⟨v, hv, rfl⟩ := h
      simpa using idxOf_get hv

section
variable {im : Im} {loc loc1 : Loc} {m : List Nat}

/-- The new numbers name the old blocks. -/
def Ren (m : List Nat) (loc loc1 : Loc) : Prop := ∀ (u t : Nat), m[u]? = some t → loc1 u = loc t

mutual
theorem ren_ok (hm : Ren m loc loc1) : ∀ {x y : PV} {v : Value}, VR im loc x v → ren m x = some y → VR im loc1 y v
  | .undef, y, v, h, hr => by simp only [ren, Option.some.injEq] at hr; subst hr; exact .undef _
  | .nul, y, v, h, hr => by simp only [ren, Option.some.injEq] at hr; subst hr; cases h; exact .nul
  | .int k n, y, v, h, hr => by simp only [ren, Option.some.injEq] at hr; subst hr; cases h; exact .int _ _
  | .bool b, y, v, h, hr => by simp only [ren, Option.some.injEq] at hr; subst hr; cases h; exact .bool _
  | .str b, y, v, h, hr => by simp only [ren, Option.some.injEq] at hr; subst hr; cases h; exact .str _
  | .nilf, y, v, h, hr => by simp only [ren, Option.some.injEq] at hr; subst hr; cases h; exact .nilf
  | .agg cs, y, v, h, hr => by
    simp only [ren, Option.map_eq_some_iff] at hr
    obtain ⟨cs', h1, rfl⟩ := hr
    cases h with | agg _ vs h => exact .agg _ _ (renL_ok hm h h1)
  | .tup cs, y, v, h, hr => by
    simp only [ren, Option.map_eq_some_iff] at hr
    obtain ⟨cs', h1, rfl⟩ := hr
    cases h with | tup _ vs h => exact .tup _ _ (renL_ok hm h h1)
  | .sl e c rows, y, v, h, hr => by
    simp only [ren, Option.some.injEq] at hr; subst hr
    cases h with | sl _ _ _ a cap h1 h2 h3 => exact .sl _ _ _ a cap h1 h2 h3
  | .own t e off len cap ex, y, v, h, hr => by
    simp only [ren, Option.map_eq_some_iff] at hr
    obtain ⟨u, h1, rfl⟩ := hr
    cases h with | own _ _ _ _ _ _ li a cap' g1 g2 g3 g4 g5 g6 g7 => exact .own _ _ _ _ _ _ li a cap' (by rw [hm u t (idxOf_get h1)]; exact g1) g2 g3 g4 g5 g6 g7
  | .ptr t e row off, y, v, h, hr => by
    simp only [ren, Option.map_eq_some_iff] at hr
    obtain ⟨u, h1, rfl⟩ := hr
    cases h with | ptr _ _ _ _ li g1 g2 g3 => exact .ptr _ _ _ _ li (by rw [hm u t (idxOf_get h1)]; exact g1) g2 g3
  | .rptr cs off, y, v, h, hr => by
    simp only [ren, Option.map_eq_some_iff] at hr
    obtain ⟨cs', h1, rfl⟩ := hr
    cases h with | rptr _ _ b o vs h hv => exact .rptr _ _ b o vs (renL_ok hm h h1) hv
  | .mp t, y, v, h, hr => by
    simp only [ren, Option.map_eq_some_iff] at hr
    obtain ⟨u, h1, rfl⟩ := hr
    cases h with | mp _ li g1 => exact .mp _ li (by rw [hm u t (idxOf_get h1)]; exact g1)
  | .clo f a b, y, v, h, hr => by
    simp only [ren] at hr
    split at hr
    · rename_i a' b' ha hb
      injection hr with hr; subst hr
      cases h with | clo _ _ _ as bs h1 h2 => exact .clo _ _ _ _ _ (renL_ok hm h1 ha) (renL_ok hm h2 hb)
    · cases hr
theorem renL_ok (hm : Ren m loc loc1) : ∀ {x y : List PV} {v : List Value}, VRL im loc x v → renL m x = some y → VRL im loc1 y v
  | [], y, v, h, hr => by simp only [renL, Option.some.injEq] at hr; subst hr; cases h; exact .nil
  | x :: xs, y, v, h, hr => by
    simp only [renL] at hr
    split at hr
    · rename_i x' xs' h1 h2
      injection hr with hr; subst hr
      cases h with | cons _ u _ us g1 g2 => exact .cons _ _ _ _ (ren_ok hm g1 h1) (renL_ok hm g2 h2)
    · cases hr
end

theorem renL_length : ∀ {x y : List PV}, renL m x = some y → y.length = x.length
  | [], y, h => by simp only [renL, Option.some.injEq] at h; subst h; rfl
  | x :: xs, y, h => by
    simp only [renL] at h
    split at h
    · rename_i x' xs' h1 h2
      injection h with h; subst h
      simp [renL_length h2]
    · cases h

theorem renBlk_ok {w : World} {li : LI} {k k' : Blk} (hm : Ren m loc loc1) (hr : renBlk m k = some k') (h : BR im loc w li k) : BR im loc1 w li k' := by
  cases k with
  | arr e rows => simp only [renBlk, Option.some.injEq] at hr; subst hr; exact h
  | map es => simp only [renBlk, Option.some.injEq] at hr; subst hr; exact h
  | dead => simp only [renBlk, Option.some.injEq] at hr; subst hr; trivial
  | box cs =>
    simp only [renBlk, Option.map_eq_some_iff] at hr
    obtain ⟨cs', h1, rfl⟩ := hr
    obtain ⟨g1, g2, g3, vs, el, g4, g5, g6⟩ := h
    exact ⟨by rw [renL_length h1]; exact g1, g2, g3, vs, el, g4, g5, renL_ok hm g6 h1⟩

theorem renBlk_solid {k k' : Blk} (hr : renBlk m k = some k') : k'.solid = k.solid := by
  cases k with
  | arr e rows => simp only [renBlk, Option.some.injEq] at hr; subst hr; rfl
  | map es => simp only [renBlk, Option.some.injEq] at hr; subst hr; rfl
  | dead => simp only [renBlk, Option.some.injEq] at hr; subst hr; rfl
  | box cs =>
    simp only [renBlk, Option.map_eq_some_iff] at hr
    obtain ⟨cs', h1, rfl⟩ := hr
    rfl

theorem renSto_ok {sto : Sto} : ∀ {l : List Nat} {s1 : Sto}, renSto sto m l = some s1 → s1.length = l.length ∧ ∀ (u t : Nat), l[u]? = some t → ∃ k k', sto[t]? = some k ∧ renBlk m k = some k' ∧ s1[u]? = some k'
  | [], s1, h => by simp only [renSto, Option.some.injEq] at h; subst h; exact ⟨rfl, fun u t h => by simp at h⟩
  | t :: ts, s1, h => by
    simp only [renSto] at h
    split at h
    · rename_i b hb
      split at h
      · rename_i b' r h1 h2
        injection h with h; subst h
        obtain ⟨g1, g2⟩ := renSto_ok h2
        refine ⟨by simp [g1], fun u t' ht => ?_⟩
        cases u with
        | zero => simp at ht; subst ht; exact ⟨b, b', hb, h1, rfl⟩
        | succ u => simpa using g2 u t' (by simpa using ht)
      · cases h
    · cases h

theorem renFz_ok {fz : List Nat} : ∀ {l : List Nat} {i0 u t : Nat}, l[u]? = some t → (i0 + u) ∉ renFz fz i0 l → t ∉ fz
  | [], i0, u, t, h, _ => by simp at h
  | s :: r, i0, u, t, h, hn => by
    simp only [renFz] at hn
    cases u with
    | zero =>
      simp at h; subst h
      intro hf
      rw [if_pos (has_iff.2 hf)] at hn
      exact hn (by simp)
    | succ u =>
      refine renFz_ok (l := r) (i0 := i0 + 1) (u := u) (by simpa using h) fun hmem => ?_
      rw [show i0 + (u + 1) = i0 + 1 + u by omega] at hn
      split at hn
      · exact hn (List.mem_cons_of_mem _ hmem)
      · exact hn hmem

theorem reach_ok {sto : Sto} : ∀ {n : Nat} {ts seen : List Nat} {m : List Nat}, reach sto n ts seen = some m → (∃ l, m = seen ++ l) ∧ (seen.Nodup → m.Nodup)
  | _, [], seen, m, h => by
    have h : some seen = some m := by rw [← h]; unfold reach; cases ‹Nat› <;> rfl
    injection h with h; subst h; exact ⟨⟨[], by simp⟩, id⟩
  | 0, _ :: _, seen, m, h => by simp [reach] at h
  | n + 1, t :: ts, seen, m, h => by
    simp only [reach] at h
    split at h
    · exact reach_ok h
    · rename_i hn
      split at h
      · obtain ⟨⟨l, hl⟩, h2⟩ := reach_ok h
        refine ⟨⟨t :: l, by rw [hl]; simp⟩, fun hd => h2 ?_⟩
        rw [List.nodup_append]
        refine ⟨hd, by simp, fun a ha b hb => ?_⟩
        have : b = t := by simpa using hb
        subst this
        intro e; subst e
        exact hn (has_iff.2 ha)
      · cases h

theorem upTo_get : ∀ {n i : Nat}, i < n → (upTo n)[i]? = some i
  | n + 1, i, h => by
    have hl : ∀ n, (upTo n).length = n := by
      intro n; induction n with
      | zero => rfl
      | succ n ih => simp [upTo, ih]
    simp only [upTo]
    rcases Nat.lt_or_ge i n with h' | h'
    · rw [List.getElem?_append_left (by rw [hl]; exact h')]; exact upTo_get h'
    · rw [List.getElem?_append_right (by rw [hl]; exact h'), hl]
      have : i = n := by omega
      subst this; simp

theorem upTo_mem : ∀ {n i : Nat}, i ∈ upTo n → i < n
  | n + 1, i, h => by
    simp only [upTo, List.mem_append, List.mem_singleton] at h
    rcases h with h | h
    · have := upTo_mem h; omega
    · omega

theorem upTo_nodup : ∀ n, (upTo n).Nodup
  | 0 => by simp [upTo]
  | n + 1 => by
    simp only [upTo]
    rw [List.nodup_append]
    refine ⟨upTo_nodup n, by simp, fun a ha b hb => ?_⟩
    have := upTo_mem ha
    have : b = n := by simpa using hb
    omega

end
end Go.Vm
