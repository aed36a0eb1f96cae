/- The logical machine, part 4: SvNorm, SvCall, SvFp, SvRun, SvCon. -/
import Derived.Test.YtppeldaebnfmdabGreatEVm3
import Derived.Test.YtppeldaebnfmdabGreatEVm2
/- The head of a loop: what the typed machine keeps there, the logical machine keeps there. -/
namespace Go.Vm
section
variable {s : List SB} {ps : Sto}

mutual
theorem tkEx {n : Nat} (hS : RSto s ps) (hB : ∀ t l, exBxS s n t = some l → tkBx s n t = toksBx ps n t) : ∀ {v u : SV} {p : PV}, R s v p → exV s (exBxS s n) v = some u → tkV (tkBx s n) v = toks (toksBx ps n) p
  | .int _ _, _, p, h, _ | .bool _, _, p, h, _ | .str _, _, p, h, _ | .nilf, _, p, h, _ | .sl _ _, _, p, h, _ | .nil _ _, _, p, h, _ => by rw [show p = _ from h]; rfl
  | .agg cs, u, p, h, hx => by
    obtain ⟨q, rfl, h⟩ := h
    simp only [exV] at hx
    split at hx
    · rename_i l hl; exact tkExL hS hB h hl
    · cases hx
  | .tup cs, u, p, h, hx => by
    obtain ⟨q, rfl, h⟩ := h
    simp only [exV] at hx
    split at hx
    · rename_i l hl; exact tkExL hS hB h hl
    · cases hx
  | .own t ex, _, p, h, _ => by obtain ⟨e, n, rfl, _⟩ := h; rfl
  | .pre t a b c, _, p, h, _ => by obtain ⟨e, rfl, _⟩ := h; rfl
  | .part t o a b c, _, p, h, _ => by obtain ⟨e, rfl, _⟩ := h; rfl
  | .pa t r i a o, _, p, h, hx => by
    obtain ⟨rfl, hat⟩ := h
    simp only [exV, nth_eq] at hx
    split at hx
    · rename_i q l hst
      simp only [tkV, toks]
      cases n with
      | zero => rfl
      | succ n => simp only [tkBx, toksBx, nth_eq, hst, hS.arr hst]
    · cases hx
  | .bp t m o, u, p, h, hx => by
    rw [show p = _ from h]
    simp only [exV, nth_eq] at hx
    split at hx
    · split at hx
      · rename_i l hl
        simp only [tkV, toks, hB t l hl]
      · cases hx
    · cases hx
  | .rptr cs o, u, p, h, hx => by
    obtain ⟨q, rfl, h⟩ := h
    simp only [exV] at hx
    split at hx
    · rename_i l hl; exact tkExL hS hB h hl
    · cases hx
  | .clo f a b, u, p, h, hx => by
    obtain ⟨pa, pb, rfl, h1, h2⟩ := h
    simp only [exV] at hx
    split at hx
    · rename_i x y h3 h4
      simp only [tkV, toks, tkExL hS hB h1 h3, tkExL hS hB h2 h4]
    · cases hx
  | .junk, _, _, _, hx | .undef, _, _, _, hx | .nul, _, _, _, hx | .pb _ _ _, _, _, _, hx | .mp _, _, _, _, hx => by cases hx
theorem tkExL {n : Nat} (hS : RSto s ps) (hB : ∀ t l, exBxS s n t = some l → tkBx s n t = toksBx ps n t) : ∀ {v u : List SV} {p : List PV}, RL s v p → exVL s (exBxS s n) v = some u → tkVL (tkBx s n) v = toksL (toksBx ps n) p
  | [], _, p, h, _ => by rw [show p = _ from h]; rfl
  | x :: xs, u, p, h, hx => by
    obtain ⟨q, qs, rfl, h1, h2⟩ := h.cons_inv
    simp only [exVL] at hx
    split at hx
    · rename_i a b h3 h4
      simp only [tkVL, toksL, tkEx hS hB h1 h3, tkExL hS hB h2 h4]
    · cases hx
end

theorem tkBx_R (hS : RSto s ps) : ∀ (n t : Nat) (l : List SV), exBxS s n t = some l → tkBx s n t = toksBx ps n t
  | 0, t, l, h => rfl
  | n + 1, t, l, h => by
    simp only [exBxS, nth_eq] at h
    split at h
    · rename_i cs hst
      obtain ⟨q, h1, h2⟩ := hS.box hst
      simp only [tkBx, toksBx, nth_eq, hst, h1]
      exact tkExL hS (tkBx_R hS n) h2 h
    · cases h

/-! ### blocks that are reached -/

theorem blkTk_R {b : SB} {q : Blk} (h : RB s b q) (hs : blkSure b = true) : blkTkS b = blkToks q := by
  cases b with
  | box cs => obtain ⟨c, rfl, h⟩ := h; exact tkVL_R (fun _ => rfl) h hs
  | arr r l => rw [show q = _ from h]; rfl
  | set l => rw [show q = _ from h]; rfl
  | dead => rw [show q = _ from h]; rfl

theorem reachS_R (hS : RSto s ps) : ∀ (n : Nat) (ts seen m : List Nat), reachS s n ts seen = some m → reach ps n ts seen = some m
  | n, [], seen, m, h => by
    cases n <;> (simp only [reachS] at h; exact h)
  | 0, _ :: _, _, _, h => by cases h
  | n + 1, t :: ts, seen, m, h => by
    simp only [reachS, nth_eq] at h
    simp only [reach]
    cases hh : has seen t with
    | true => rw [hh] at h; simp only [cond_true] at h; simp only [if_true]; exact reachS_R hS n ts seen m h
    | false =>
      rw [hh] at h
      simp only [cond_false] at h
      simp only [Bool.false_eq_true, if_false]
      split at h
      · rename_i b hst
        obtain ⟨q, h1, h2⟩ := hS.at_ t b hst
        cases hb : blkSure b with
        | false => rw [hb] at h; cases h
        | true =>
          rw [hb] at h
          simp only [cond_true] at h
          rw [h1, blkTk_R h2 hb] at *
          exact reachS_R hS n _ _ m h
      · cases h

theorem idxOf_getS : ∀ {t u : Nat} {m : List Nat}, idxOf t m = some u → m[u]? = some t
  | t, u, [], h => by cases h
  | t, u, x :: m, h => by
    simp only [idxOf] at h
    cases hb : Nat.beq x t with
    | true => rw [hb] at h; simp at h; subst h; simp [Nat.eq_of_beq_eq_true hb]
    | false =>
      rw [hb] at h
      simp only [Bool.false_eq_true, if_false, Option.map_eq_some_iff] at h
      obtain ⟨v, hv, rfl⟩ := h
      simpa using idxOf_getS hv

/-- The blocks of a store, numbered anew. -/
def RenS (m : List Nat) (s s' : List SB) : Prop := ∀ (t u : Nat) (b : SB), idxOf t m = some u → s[t]? = some b → match b with
  | .arr r l => s'[u]? = some (.arr r l)
  | .dead => s'[u]? = some .dead
  | _ => True

mutual
theorem renV_R {m : List Nat} {s' : List SB} (hr : RenS m s s') : ∀ {v u : SV} {p : PV}, R s v p → renV m v = some u → ∃ q, ren m p = some q ∧ R s' u q
  | .junk, _, _, _, hx => by cases hx
  | .undef, u, p, h, hx | .nul, u, p, h, hx | .nilf, u, p, h, hx | .int _ _, u, p, h, hx | .bool _, u, p, h, hx | .str _, u, p, h, hx | .sl _ _, u, p, h, hx | .nil _ _, u, p, h, hx => by
    injection hx with hx; subst hx; rw [show p = _ from h]; exact ⟨_, rfl, rfl⟩
  | .agg cs, u, p, h, hx => by
    obtain ⟨q, rfl, h⟩ := h
    simp only [renV] at hx
    split at hx
    · rename_i l hl
      injection hx with hx; subst hx
      obtain ⟨q', h1, h2⟩ := renVL_R hr h hl
      exact ⟨.agg q', by simp only [ren, h1]; rfl, q', rfl, h2⟩
    · cases hx
  | .tup cs, u, p, h, hx => by
    obtain ⟨q, rfl, h⟩ := h
    simp only [renV] at hx
    split at hx
    · rename_i l hl
      injection hx with hx; subst hx
      obtain ⟨q', h1, h2⟩ := renVL_R hr h hl
      exact ⟨.tup q', by simp only [ren, h1]; rfl, q', rfl, h2⟩
    · cases hx
  | .own t ex, u, p, h, hx => by
    obtain ⟨e, n, rfl, hat⟩ := h
    simp only [renV] at hx
    split at hx
    · rename_i v hv
      injection hx with hx; subst hx
      refine ⟨.own v e 0 n n ex, by simp only [ren, hv]; rfl, e, n, rfl, ?_⟩
      rcases hat with ⟨r, l, h1, h2, h3⟩ | h1
      · exact .inl ⟨r, l, hr t v _ hv h1, h2, h3⟩
      · exact .inr (hr t v _ hv h1)
    · cases hx
  | .pre t len cap ex, u, p, h, hx => by
    obtain ⟨e, rfl, hat⟩ := h
    simp only [renV] at hx
    split at hx
    · rename_i v hv
      injection hx with hx; subst hx
      refine ⟨.own v e 0 len cap ex, by simp only [ren, hv]; rfl, e, rfl, ?_⟩
      rcases hat with ⟨r, l, h1, h2⟩ | h1
      · exact .inl ⟨r, l, hr t v _ hv h1, h2⟩
      · exact .inr (hr t v _ hv h1)
    · cases hx
  | .part t off len cap ex, u, p, h, hx => by
    obtain ⟨e, rfl, hat⟩ := h
    simp only [renV] at hx
    split at hx
    · rename_i v hv
      injection hx with hx; subst hx
      refine ⟨.own v e off len cap ex, by simp only [ren, hv]; rfl, e, rfl, ?_⟩
      rcases hat with ⟨r, l, h1, h2⟩ | h1
      · exact .inl ⟨r, l, hr t v _ hv h1, h2⟩
      · exact .inr (hr t v _ hv h1)
    · cases hx
  | .pa t r i a off, u, p, h, hx => by
    obtain ⟨rfl, hat⟩ := h
    simp only [renV] at hx
    split at hx
    · rename_i v hv
      injection hx with hx; subst hx
      refine ⟨.ptr v r.length i.toNat off, by simp only [ren, hv]; rfl, r.length, rfl, ?_⟩
      rcases hat with ⟨l, h1, h2⟩ | h1
      · exact .inl ⟨r, l, hr t v _ hv h1, by rw [h2]; rfl⟩
      · exact .inr (hr t v _ hv h1)
    · cases hx
  | .pb t i off, u, p, h, hx => by
    obtain ⟨e, rfl, hat⟩ := h
    simp only [renV] at hx
    split at hx
    · rename_i v hv
      injection hx with hx; subst hx
      refine ⟨.ptr v e i.toNat off, by simp only [ren, hv]; rfl, e, rfl, ?_⟩
      rcases hat with ⟨r, l, h1, h2⟩ | h1
      · exact .inl ⟨r, l, hr t v _ hv h1, h2⟩
      · exact .inr (hr t v _ hv h1)
    · cases hx
  | .bp t n off, u, p, h, hx => by
    rw [show p = _ from h]
    simp only [renV] at hx
    split at hx
    · rename_i v hv
      injection hx with hx; subst hx
      exact ⟨.ptr v n 0 off, by simp only [ren, hv]; rfl, rfl⟩
    · cases hx
  | .rptr cs off, u, p, h, hx => by
    obtain ⟨q, rfl, h⟩ := h
    simp only [renV] at hx
    split at hx
    · rename_i l hl
      injection hx with hx; subst hx
      obtain ⟨q', h1, h2⟩ := renVL_R hr h hl
      exact ⟨.rptr q' off, by simp only [ren, h1]; rfl, q', rfl, h2⟩
    · cases hx
  | .mp t, u, p, h, hx => by
    rw [show p = _ from h]
    simp only [renV] at hx
    split at hx
    · rename_i v hv
      injection hx with hx; subst hx
      exact ⟨.mp v, by simp only [ren, hv]; rfl, rfl⟩
    · cases hx
  | .clo f a b, u, p, h, hx => by
    obtain ⟨pa, pb, rfl, h1, h2⟩ := h
    simp only [renV] at hx
    split at hx
    · rename_i x y h3 h4
      injection hx with hx; subst hx
      obtain ⟨qa, h5, h6⟩ := renVL_R hr h1 h3
      obtain ⟨qb, h7, h8⟩ := renVL_R hr h2 h4
      exact ⟨.clo f qa qb, by simp only [ren, h5, h7], qa, qb, rfl, h6, h8⟩
    · cases hx
theorem renVL_R {m : List Nat} {s' : List SB} (hr : RenS m s s') : ∀ {v u : List SV} {p : List PV}, RL s v p → renVL m v = some u → ∃ q, renL m p = some q ∧ RL s' u q
  | [], u, p, h, hx => by injection hx with hx; subst hx; rw [show p = _ from h]; exact ⟨_, rfl, rfl⟩
  | x :: xs, u, p, h, hx => by
    obtain ⟨q, qs, rfl, h1, h2⟩ := h.cons_inv
    simp only [renVL] at hx
    split at hx
    · rename_i a b h3 h4
      injection hx with hx; subst hx
      obtain ⟨a', h5, h6⟩ := renV_R hr h1 h3
      obtain ⟨b', h7, h8⟩ := renVL_R hr h2 h4
      exact ⟨a' :: b', by simp only [renL, h5, h7], RL.cons h6 h8⟩
    · cases hx
end

theorem renB_R {m : List Nat} {s' : List SB} (hr : RenS m s s') {b c : SB} {q : Blk} (h : RB s b q) (hx : renB m b = some c) : ∃ q', renBlk m q = some q' ∧ RB s' c q' := by
  cases b with
  | box cs =>
    obtain ⟨p, rfl, h⟩ := h
    simp only [renB] at hx
    split at hx
    · rename_i l hl
      injection hx with hx; subst hx
      obtain ⟨q', h1, h2⟩ := renVL_R hr h hl
      exact ⟨.box q', by simp only [renBlk, h1]; rfl, q', rfl, h2⟩
    · cases hx
  | arr r l => injection hx with hx; subst hx; rw [show q = _ from h]; exact ⟨_, rfl, rfl⟩
  | set l => injection hx with hx; subst hx; rw [show q = _ from h]; exact ⟨_, rfl, rfl⟩
  | dead => injection hx with hx; subst hx; rw [show q = _ from h]; exact ⟨_, rfl, rfl⟩

theorem renS_get {m : List Nat} : ∀ {ts : List Nat} {s1 : List SB}, renS s m ts = some s1 → s1.length = ts.length ∧ ∀ (j t : Nat), ts[j]? = some t → ∃ b c, s[t]? = some b ∧ renB m b = some c ∧ s1[j]? = some c
  | [], s1, h => by injection h with h; subst h; exact ⟨rfl, fun j t h => by simp at h⟩
  | t :: ts, s1, h => by
    simp only [renS, nth_eq] at h
    split at h
    · rename_i b hb
      split at h
      · rename_i c r hc hr
        injection h with h; subst h
        obtain ⟨h1, h2⟩ := renS_get hr
        refine ⟨by simp [h1], fun j u hj => ?_⟩
        cases j with
        | zero => simp at hj; subst hj; exact ⟨b, c, hb, hc, rfl⟩
        | succ j => simpa using h2 j u (by simpa using hj)
      · cases h
    · cases h

theorem renSto_of (hS : RSto s ps) {m : List Nat} {s' : List SB} (hr : RenS m s s') : ∀ {ts : List Nat} {s1 : List SB}, renS s m ts = some s1 → ∃ p1, renSto ps m ts = some p1 ∧ p1.length = s1.length ∧ ∀ (j : Nat) (b : SB), s1[j]? = some b → ∃ q, p1[j]? = some q ∧ RB s' b q
  | [], s1, h => by injection h with h; subst h; exact ⟨[], rfl, rfl, fun j b h => by simp at h⟩
  | t :: ts, s1, h => by
    simp only [renS, nth_eq] at h
    split at h
    · rename_i b hb
      split at h
      · rename_i c r hc hr'
        injection h with h; subst h
        obtain ⟨q, h1, h2⟩ := hS.at_ t b hb
        obtain ⟨q', h3, h4⟩ := renB_R hr h2 hc
        obtain ⟨p1, h5, h6, h7⟩ := renSto_of hS hr hr'
        refine ⟨q' :: p1, by simp only [renSto, h1, h3, h5], by simp [h6], fun j x hj => ?_⟩
        cases j with
        | zero => simp at hj; subst hj; exact ⟨q', rfl, h4⟩
        | succ j => simpa using h7 j x (by simpa using hj)
      · cases h
    · cases h

/-- Numbered anew, with more behind. -/
theorem RenS.of {m : List Nat} {s1 l : List SB} (h : renS s m m = some s1) : RenS m s (s1 ++ l) := fun t u b hu hb => by
  have hm := idxOf_getS hu
  obtain ⟨h1, h2⟩ := renS_get h
  obtain ⟨b', c, h3, h4, h5⟩ := h2 u t hm
  rw [hb] at h3; injection h3 with h3; subst h3
  have hlt := (List.getElem?_eq_some_iff.1 h5).1
  cases b with
  | arr r l' => injection h4 with h4; subst h4; rw [List.getElem?_append_left hlt]; exact h5
  | dead => injection h4 with h4; subst h4; rw [List.getElem?_append_left hlt]; exact h5
  | _ => trivial

theorem rowOf_len : ∀ (rk : List (Nat × List PT)) (n : Nat), (rowOf rk n).length = n
  | [], n => by simp [rowOf]
  | (m, r) :: q, n => by
    simp only [rowOf]
    cases hc : (Nat.beq m n && Nat.beq r.length n) with
    | true => simp only [Bool.and_eq_true] at hc; exact Nat.eq_of_beq_eq_true hc.2
    | false => exact rowOf_len q n

/-- What lies behind the blocks that are kept: blocks without rows. -/
theorem liveS_new {rk : List (Nat × List PT)} {e : SE} {m : List Nat} : ∀ {live : List (Nat × Option Nat)} {nx : Nat} {e1 : SE} {s2 : List SB}, liveS rk e m nx live = some (e1, s2) → ∀ (j : Nat) (b : SB), s2[j]? = some b → ∃ r, b = .arr r []
  | [], nx, e1, s2, h, j, b, hj => by
    simp only [liveS, Option.some.injEq, Prod.mk.injEq] at h
    rw [← h.2] at hj; simp at hj
  | (t, k) :: live, nx, e1, s2, h, j, b, hj => by
    simp only [liveS] at h
    split at h
    · split at h
      · rename_i p hp
        simp only [Option.some.injEq, Prod.mk.injEq] at h
        obtain ⟨rfl, rfl⟩ := h
        cases j with
        | zero => simp at hj; exact ⟨_, hj.symm⟩
        | succ j => exact liveS_new (e1 := p.1) (s2 := p.2) hp j b (by simpa using hj)
      · cases h
    · split at h
      · rename_i v' p hv hp
        simp only [Option.some.injEq, Prod.mk.injEq] at h
        obtain ⟨rfl, rfl⟩ := h
        exact liveS_new (e1 := p.1) (s2 := p.2) hp j b hj
      · cases h

theorem liveS_R {rk : List (Nat × List PT)} {e : SE} {pe : Env} (hE : REnv s e pe) {m : List Nat} {s' : List SB} (hr : RenS m s s') : ∀ {live : List (Nat × Option Nat)} {nx : Nat} {e1 : SE} {s2 : List SB}, liveS rk e m nx live = some (e1, s2) → (∀ (j : Nat) (b : SB), s2[j]? = some b → s'[nx + j]? = some b) →
    ∃ p1 q2, liveEnv pe m nx live = some (p1, q2) ∧ REnv s' e1 p1 ∧ q2.length = s2.length ∧ ∀ (j : Nat) (b : SB), s2[j]? = some b → ∃ q, q2[j]? = some q ∧ RB s' b q
  | [], nx, e1, s2, h, _ => by
    simp only [liveS, Option.some.injEq, Prod.mk.injEq] at h
    obtain ⟨rfl, rfl⟩ := h
    exact ⟨[], [], rfl, rfl, rfl, fun j b h => by simp at h⟩
  | (t, k) :: live, nx, e1, s2, h, hs => by
    have hlk := hE.lk t
    simp only [liveS] at h
    split at h
    · rename_i kk esz en hv
      split at h
      · rename_i p hp
        simp only [Option.some.injEq, Prod.mk.injEq] at h
        obtain ⟨rfl, rfl⟩ := h
        rw [hv] at hlk
        obtain ⟨p1, q2, h1, h2, h3, h4⟩ := liveS_R (live := live) (nx := nx + 1) (e1 := p.1) (s2 := p.2) hE hr hp (fun j b hj => by
          have := hs (j + 1) b (by simpa using hj)
          rw [show nx + 1 + j = nx + (j + 1) by omega]; exact this)
        refine ⟨(t, .own nx esz 0 0 0 false) :: p1, .arr esz [] :: q2, ?_, ⟨_, _, rfl, ⟨esz, 0, rfl, .inl ⟨rowOf rk esz, [], by simpa using hs 0 _ rfl, (rowOf_len rk esz).symm, rfl⟩⟩, h2⟩, by simp [h3], fun j b hj => ?_⟩
        · have hlk' : lk t pe = .sl en true [] := hlk
          simp only [liveEnv, hlk', h1]
          rfl
        · cases j with
          | zero => simp at hj; subst hj; exact ⟨_, rfl, by show _ = _; rw [rowOf_len]; rfl⟩
          | succ j => simpa using h4 j b (by simpa using hj)
      · cases h
    · rename_i hne
      split at h
      · rename_i v' p hv hp
        simp only [Option.some.injEq, Prod.mk.injEq] at h
        obtain ⟨rfl, rfl⟩ := h
        obtain ⟨q', h5, h6⟩ := renV_R hr hlk hv
        obtain ⟨p1, q2, h1, h2, h3, h4⟩ := liveS_R (live := live) (e1 := p.1) (s2 := p.2) hE hr hp hs
        refine ⟨(t, q') :: p1, q2, ?_, ⟨_, _, rfl, h6, h2⟩, h3, h4⟩
        simp only [liveEnv]
        split
        · rename_i esz x hx
          exfalso
          rw [hx] at hlk
          generalize lkS t e = v0 at hlk hv hne
          cases v0 with
          | junk => cases hv
          | nil e' c =>
            have hlk' : PV.sl x true [] = .sl e' c [] := hlk
            injection hlk' with h1 h2
            subst h2
            exact hne _ _ rfl rfl
          | undef | nul | nilf | int _ _ | bool _ | str _ | bp _ _ _ | mp _ => cases (show PV.sl x true [] = _ from hlk)
          | sl r l => cases (show PV.sl x true [] = _ from hlk)
          | agg _ | tup _ | rptr _ _ => obtain ⟨q, hq, _⟩ := hlk; cases hq
          | clo _ _ _ => obtain ⟨q, q2, hq, _⟩ := hlk; cases hq
          | own _ _ => obtain ⟨q, q2, hq, _⟩ := hlk; cases hq
          | pre _ _ _ _ => obtain ⟨q, hq, _⟩ := hlk; cases hq
          | part _ _ _ _ _ => obtain ⟨q, hq, _⟩ := hlk; cases hq
          | pa _ _ _ _ _ => obtain ⟨hq, _⟩ := hlk; cases hq
          | pb _ _ _ => obtain ⟨q, hq, _⟩ := hlk; cases hq
        · simp only [h5, h1]
      · cases h


mutual
theorem renV_sure {m : List Nat} : ∀ {v u : SV}, renV m v = some u → u.sure = true
  | .junk, _, h => by cases h
  | .undef, u, h | .nul, u, h | .nilf, u, h | .int _ _, u, h | .bool _, u, h | .str _, u, h | .sl _ _, u, h | .nil _ _, u, h => by injection h with h; subst h; rfl
  | .agg cs, u, h => by
    simp only [renV] at h
    split at h
    · rename_i l hl; injection h with h; subst h; exact renVL_sure hl
    · cases h
  | .tup cs, u, h => by
    simp only [renV] at h
    split at h
    · rename_i l hl; injection h with h; subst h; exact renVL_sure hl
    · cases h
  | .rptr cs _, u, h => by
    simp only [renV] at h
    split at h
    · rename_i l hl; injection h with h; subst h; exact renVL_sure hl
    · cases h
  | .own _ _, u, h => by simp only [renV] at h; split at h <;> first | (injection h with h; subst h; rfl) | cases h
  | .pre _ _ _ _, u, h => by simp only [renV] at h; split at h <;> first | (injection h with h; subst h; rfl) | cases h
  | .part _ _ _ _ _, u, h => by simp only [renV] at h; split at h <;> first | (injection h with h; subst h; rfl) | cases h
  | .pa _ _ _ _ _, u, h => by simp only [renV] at h; split at h <;> first | (injection h with h; subst h; rfl) | cases h
  | .pb _ _ _, u, h => by simp only [renV] at h; split at h <;> first | (injection h with h; subst h; rfl) | cases h
  | .bp _ _ _, u, h => by simp only [renV] at h; split at h <;> first | (injection h with h; subst h; rfl) | cases h
  | .mp _, u, h => by simp only [renV] at h; split at h <;> first | (injection h with h; subst h; rfl) | cases h
  | .clo f a b, u, h => by
    simp only [renV] at h
    split at h
    · rename_i x y h1 h2
      injection h with h; subst h
      simp only [SV.sure, renVL_sure h1, renVL_sure h2, Bool.and_self]
    · cases h
theorem renVL_sure {m : List Nat} : ∀ {v u : List SV}, renVL m v = some u → sureL u = true
  | [], u, h => by injection h with h; subst h; rfl
  | x :: xs, u, h => by
    simp only [renVL] at h
    split at h
    · rename_i a b h1 h2
      injection h with h; subst h
      simp only [sureL, renV_sure h1, renVL_sure h2, Bool.and_self]
    · cases h
end

def SureS (s : List SB) : Prop := ∀ (t : Nat) (cs : List SV), s[t]? = some (.box cs) → sureL cs = true
def SureE : SE → Prop
  | [] => True
  | (_, v) :: r => v.sure = true ∧ SureE r

theorem SureE.lk : ∀ {e : SE}, SureE e → ∀ t, (lkS t e).sure = true
  | [], _, t => rfl
  | (u, v) :: r, h, t => by
    simp only [lkS]
    cases hb : Nat.beq u t with
    | true => exact h.1
    | false => exact SureE.lk h.2 t

theorem liveS_sure {rk : List (Nat × List PT)} {e : SE} {m : List Nat} : ∀ {live : List (Nat × Option Nat)} {nx : Nat} {e1 : SE} {s2 : List SB}, liveS rk e m nx live = some (e1, s2) → SureE e1
  | [], nx, e1, s2, h => by
    simp only [liveS, Option.some.injEq, Prod.mk.injEq] at h
    rw [← h.1]; trivial
  | (t, k) :: live, nx, e1, s2, h => by
    simp only [liveS] at h
    split at h
    · split at h
      · rename_i p hp
        simp only [Option.some.injEq, Prod.mk.injEq] at h
        obtain ⟨rfl, rfl⟩ := h
        exact ⟨rfl, liveS_sure (e1 := p.1) (s2 := p.2) hp⟩
      · cases h
    · split at h
      · rename_i v' p hv hp
        simp only [Option.some.injEq, Prod.mk.injEq] at h
        obtain ⟨rfl, rfl⟩ := h
        exact ⟨renV_sure hv, liveS_sure (e1 := p.1) (s2 := p.2) hp⟩
      · cases h

theorem sureL_get : ∀ {l : List SV}, sureL l = true → ∀ {n : Nat} {v : SV}, nth l n = some v → v.sure = true
  | [], _, _, _, h => by cases h
  | x :: xs, hs, 0, v, h => by injection h with h; subst h; simp only [sureL, Bool.and_eq_true] at hs; exact hs.1
  | x :: xs, hs, n + 1, v, h => by simp only [sureL, Bool.and_eq_true] at hs; exact sureL_get hs.2 (n := n) h

theorem sureL_set : ∀ {l : List SV}, sureL l = true → ∀ (n : Nat) {v : SV}, v.sure = true → sureL (l.set n v) = true
  | [], _, n, v, _ => rfl
  | x :: xs, hs, 0, v, h => by simp only [sureL, Bool.and_eq_true] at hs; simp [sureL, h, hs.2]
  | x :: xs, hs, n + 1, v, h => by simp only [sureL, Bool.and_eq_true] at hs; simp [sureL, hs.1, sureL_set hs.2 n h]

theorem RL.set {s : List SB} : ∀ {xs : List SV} {ps : List PV}, RL s xs ps → ∀ (n : Nat) {v : SV} {p : PV}, R s v p → RL s (xs.set n v) (ps.set n p)
  | [], ps, h, n, v, p, _ => by rw [show ps = [] from h]; exact RL.nil
  | x :: xs, ps, h, 0, v, p, hv => by
    obtain ⟨a, q, rfl, h1, h2⟩ := h.cons_inv
    exact RL.cons hv h2
  | x :: xs, ps, h, n + 1, v, p, hv => by
    obtain ⟨a, q, rfl, h1, h2⟩ := h.cons_inv
    exact RL.cons h1 (RL.set h2 n hv)

/-- The parts of a state that are looked over together. -/
structure RSS (st : SSt) (p : St) : Prop where
  r : RSt st p
  s : SureS st.sto
  e : SureE st.env

theorem ownCellS_R {rk : List (Nat × List PT)} {st : SSt} {p : St} (h : RSS st p) (t c esz : Nat) : RSS (ownCellS rk st t c esz) (ownCell p t c esz) := by
  unfold ownCellS ownCell
  rw [nth_eq]
  cases hst : st.sto[t]? with
  | none =>
    have : p.sto[t]? = none := by
      rw [List.getElem?_eq_none_iff] at hst ⊢
      rw [h.r.sto.len]; exact hst
    rw [this]; exact h
  | some b =>
    obtain ⟨q, h1, h2⟩ := h.r.sto.at_ t b hst
    rw [h1]
    cases b with
    | arr r l => rw [show q = _ from h2]; exact h
    | set l => rw [show q = _ from h2]; exact h
    | dead => rw [show q = _ from h2]; exact h
    | box cs =>
      obtain ⟨pc, rfl, h3⟩ := h2
      dsimp only
      cases hc : nth cs c with
      | none =>
        have : pc[c]? = none := by
          rw [nth_eq, List.getElem?_eq_none_iff] at hc
          rw [List.getElem?_eq_none_iff, h3.length]; exact hc
        rw [this]; exact h
      | some v =>
        obtain ⟨pv, h4, h5⟩ := h3.nth hc
        rw [h4]
        have hsure := sureL_get (h.s t cs hst) hc
        have hcs := h.s t cs hst
        have other : (∀ e, pv ≠ .sl e true []) → (∀ e, v ≠ .nil e true) → RSS (match some v with
            | some (.nil _ true) => { st with sto := st.sto.set t (.box (cs.set c (.own st.sto.length false))) ++ [.arr (rowOf rk esz) []] }
            | _ => st) (match some pv with
            | some (.sl _ true []) => { p with sto := p.sto.set t (.box (pc.set c (.own p.sto.length esz 0 0 0 false))) ++ [.arr esz []] }
            | _ => p) := by
          intro n1 n2
          split
          · rename_i e he; injection he with he; exact absurd he (n2 e)
          · split
            · rename_i e he; injection he with he; exact absurd he (n1 e)
            · exact h
        cases v with
        | junk => cases hsure
        | nil e' cl =>
          have h5' : pv = .sl e' cl [] := h5
          subst h5'
          cases cl with
          | false => exact other (fun e he => by cases he) (fun e he => by cases he)
          | true =>
            dsimp only
            have hlt := (List.getElem?_eq_some_iff.1 hst).1
            have hfr : Fr [] st.sto (st.sto.set t (.box (cs.set c (.own st.sto.length false))) ++ [.arr (rowOf rk esz) []]) := fun u x hu => by
              by_cases hut : t = u
              · subst hut; rw [hst] at hu; injection hu with hu; subst hu; trivial
              · have hul := (List.getElem?_eq_some_iff.1 hu).1
                have : (st.sto.set t (.box (cs.set c (.own st.sto.length false))) ++ [.arr (rowOf rk esz) []])[u]? = some x := by
                  rw [List.getElem?_append_left (by simpa using hul), List.getElem?_set]; simp [hut, hu]
                cases x with
                | arr r l => exact .inl ⟨l, this, rfl, fun _ => rfl⟩
                | dead => exact this
                | _ => trivial
            have hlen : (st.sto.set t (.box (cs.set c (.own st.sto.length false)))).length = st.sto.length := by simp
            have hown : R (st.sto.set t (.box (cs.set c (.own st.sto.length false))) ++ [.arr (rowOf rk esz) []]) (.own st.sto.length false) (.own p.sto.length esz 0 0 0 false) := by
              refine ⟨esz, 0, by rw [h.r.sto.len], .inl ⟨rowOf rk esz, [], ?_, (rowOf_len rk esz).symm, rfl⟩⟩
              rw [List.getElem?_append_right (by simp)]; simp
            refine ⟨⟨REnv.ext hfr h.r.env, ⟨by simp [h.r.sto.len], fun u x hu => ?_⟩, h.r.fz, h.r.kn⟩, fun u x hu => ?_, h.e⟩
            · rcases Nat.lt_or_ge u st.sto.length with hul | hul
              · rw [List.getElem?_append_left (by simpa using hul), List.getElem?_set] at hu
                by_cases hut : t = u
                · subst hut
                  simp [hlt] at hu; subst hu
                  refine ⟨.box (pc.set c (.own p.sto.length esz 0 0 0 false)), ?_, _, rfl, RL.set (RL.ext hfr h3) c hown⟩
                  rw [List.getElem?_append_left (by simp [h.r.sto.len, hul]), List.getElem?_set]
                  simp [h.r.sto.len, hul]
                · simp [hut] at hu
                  obtain ⟨q, h6, h7⟩ := h.r.sto.at_ u x hu
                  refine ⟨q, ?_, h7.ext hfr⟩
                  rw [List.getElem?_append_left (by simp [h.r.sto.len, hul]), List.getElem?_set]
                  simp [hut, h6]
              · rw [List.getElem?_append_right (by simpa using hul)] at hu
                simp only [hlen] at hu
                have hu0 : u - st.sto.length = 0 := by
                  rcases Nat.eq_zero_or_pos (u - st.sto.length) with h | h
                  · exact h
                  · rw [List.getElem?_eq_none (by simp; omega)] at hu; cases hu
                rw [hu0] at hu
                simp at hu; subst hu
                refine ⟨.arr esz [], ?_, by show _ = _; rw [rowOf_len]; rfl⟩
                rw [List.getElem?_append_right (by simp [h.r.sto.len]; omega)]
                simp [h.r.sto.len, hu0]
            · rcases Nat.lt_or_ge u st.sto.length with hul | hul
              · rw [List.getElem?_append_left (by simpa using hul), List.getElem?_set] at hu
                by_cases hut : t = u
                · subst hut
                  simp [hlt] at hu; subst hu
                  exact sureL_set hcs c rfl
                · simp [hut] at hu; exact h.s u x hu
              · rw [List.getElem?_append_right (by simpa using hul)] at hu
                cases hj : u - (st.sto.set t (.box (cs.set c (.own st.sto.length false)))).length with
                | zero => rw [hj] at hu; simp at hu
                | succ j => rw [hj] at hu; simp at hu
        | undef | nul | nilf | int _ _ | bool _ | str _ | bp _ _ _ | mp _ => exact other (fun e he => by rw [show pv = _ from h5] at he; cases he) (fun e he => by cases he)
        | sl r l => exact other (fun e he => by rw [show pv = _ from h5] at he; cases he) (fun e he => by cases he)
        | agg _ | tup _ | rptr _ _ => exact other (fun e he => by obtain ⟨q, hq, _⟩ := h5; rw [hq] at he; cases he) (fun e he => by cases he)
        | clo _ _ _ => exact other (fun e he => by obtain ⟨q, q2, hq, _⟩ := h5; rw [hq] at he; cases he) (fun e he => by cases he)
        | own _ _ => exact other (fun e he => by obtain ⟨q, q2, hq, _⟩ := h5; rw [hq] at he; cases he) (fun e he => by cases he)
        | pre _ _ _ _ | part _ _ _ _ _ | pb _ _ _ => exact other (fun e he => by obtain ⟨q, hq, _⟩ := h5; rw [hq] at he; cases he) (fun e he => by cases he)
        | pa _ _ _ _ _ => exact other (fun e he => by obtain ⟨hq, _⟩ := h5; rw [hq] at he; cases he) (fun e he => by cases he)

theorem ownCell_none {p : St} {t c esz : Nat} (h : ∀ cs, p.sto[t]? ≠ some (.box cs)) : ownCell p t c esz = p := by
  unfold ownCell
  split
  · rename_i cs hcs; exact absurd hcs (h cs)
  · rfl

theorem ownCellsS_R {rk : List (Nat × List PT)} : ∀ (live : List (Nat × Option Nat)) {st : SSt} {p : St}, RSS st p → RSS (ownCellsS rk live st) (ownCells live p)
  | [], st, p, h => h
  | (t, k) :: live, st, p, h => by
    cases k with
    | none => simp only [ownCellsS, ownCells]; exact ownCellsS_R live h
    | some n =>
      simp only [ownCellsS, ownCells]
      cases hn : Nat.ble 1000 n with
      | false => simp only [cond_false, Bool.false_eq_true, if_false]; exact ownCellsS_R live h
      | true =>
        simp only [cond_true, if_true]
        have hlk := h.r.env.lk t
        have hsu := h.e.lk t
        generalize lkS t st.env = v at hlk hsu
        have plain : (∀ u e, lk t p.env ≠ .ptr u e 0 0) → RSS (ownCellsS rk live st) (match lk t p.env with
            | .ptr u _ 0 0 => ownCells live (ownCell p u (n / 1000 - 1) (n % 1000))
            | _ => ownCells live p) := by
          intro hne
          split
          · rename_i u e he; exact absurd he (hne u e)
          · exact ownCellsS_R live h
        cases v with
        | junk => cases hsu
        | bp u m off =>
          have hlk' : lk t p.env = .ptr u m 0 off := hlk
          rw [hlk']
          cases off with
          | zero => exact ownCellsS_R live (ownCellS_R h u _ _)
          | succ off => exact ownCellsS_R live h
        | pb u i off =>
          obtain ⟨e', hlk', hat⟩ := hlk
          rw [hlk']
          have hbx : ∀ cs, p.sto[u]? ≠ some (.box cs) := by
            intro cs hcs
            rcases hat with ⟨r, l, h1, _⟩ | h1
            · rw [h.r.sto.arr h1] at hcs; cases hcs
            · obtain ⟨q, h2, h3⟩ := h.r.sto.at_ u _ h1
              rw [hcs] at h2; injection h2 with h2; subst h2
              cases (show Blk.box cs = .dead from h3)
          cases hi : i.toNat with
          | zero => cases off with
            | zero =>
              show RSS (ownCellsS rk live st) (ownCells live (ownCell p u (n / 1000 - 1) (n % 1000)))
              rw [ownCell_none hbx]
              exact ownCellsS_R live h
            | succ off => exact ownCellsS_R live h
          | succ j => exact ownCellsS_R live h
        | pa u r i a off =>
          obtain ⟨hlk', hat⟩ := hlk
          rw [hlk']
          have hbx : ∀ cs, p.sto[u]? ≠ some (.box cs) := by
            intro cs hcs
            rcases hat with ⟨l, h1, _⟩ | h1
            · rw [h.r.sto.arr h1] at hcs; cases hcs
            · obtain ⟨q, h2, h3⟩ := h.r.sto.at_ u _ h1
              rw [hcs] at h2; injection h2 with h2; subst h2
              cases (show Blk.box cs = .dead from h3)
          cases hi : i.toNat with
          | zero => cases off with
            | zero =>
              show RSS (ownCellsS rk live st) (ownCells live (ownCell p u (n / 1000 - 1) (n % 1000)))
              rw [ownCell_none hbx]
              exact ownCellsS_R live h
            | succ off => exact ownCellsS_R live h
          | succ j => exact ownCellsS_R live h
        | undef | nul | nilf | int _ _ | bool _ | str _ | mp _ | sl _ _ | nil _ _ => exact plain (fun u e he => by rw [show lk t p.env = _ from hlk] at he; cases he)
        | agg _ | tup _ | rptr _ _ => exact plain (fun u e he => by obtain ⟨q, hq, _⟩ := hlk; rw [hq] at he; cases he)
        | clo _ _ _ => exact plain (fun u e he => by obtain ⟨q, q2, hq, _⟩ := hlk; rw [hq] at he; cases he)
        | own _ _ => exact plain (fun u e he => by obtain ⟨q, q2, hq, _⟩ := hlk; rw [hq] at he; cases he)
        | pre _ _ _ _ | part _ _ _ _ _ => exact plain (fun u e he => by obtain ⟨q, hq, _⟩ := hlk; rw [hq] at he; cases he)

theorem liveTk_R {e : SE} {pe : Env} (hE : REnv s e pe) : ∀ {live : List (Nat × Option Nat)}, sureEnv e live = true → liveTk e live = live.flatMap fun p => toks noBx (lk p.1 pe)
  | [], _ => rfl
  | (t, k) :: live, h => by
    simp only [sureEnv, Bool.and_eq_true] at h
    simp only [liveTk, List.flatMap_cons, liveTk_R hE h.2]
    rw [tkV_R (fun _ => rfl) (hE.lk t) h.1]

theorem knTk_R : ∀ {s' : List SB} {s : List SB} {ps : Sto} (n : Nat), (ps.length = s.length ∧ ∀ (t : Nat) (b : SB), s[t]? = some b → ∃ q, ps[t]? = some q ∧ RB s' b q) → knSure s n = true → knTk s n = (ps.take n).flatMap blkToks
  | s', [], ps, n, h, _ => by
    have : ps = [] := List.length_eq_zero_iff.1 (by simpa using h.1)
    subst this
    cases n <;> simp [knTk]
  | s', b :: s, ps, 0, h, _ => by simp [knTk]
  | s', b :: s, ps, n + 1, h, hk => by
    cases ps with
    | nil => have := h.1; simp at this
    | cons q ps =>
      simp only [knSure, Bool.and_eq_true] at hk
      obtain ⟨q', h1, h2⟩ := h.2 0 b rfl
      simp at h1; subst h1
      simp only [knTk, List.take_succ_cons, List.flatMap_cons, blkTk_R h2 hk.1]
      rw [knTk_R (s' := s') (ps := ps) n ⟨by simpa using h.1, fun t x hx => by simpa using h.2 (t + 1) x (by simpa using hx)⟩ hk.2]

theorem wideV_R {s : List SB} {v : SV} {p : PV} (h : R s v p) : R s (wideV s v) p := by
  unfold wideV
  split
  · rename_i t ex
    rw [nth_eq]
    split
    · rename_i r l hst
      obtain ⟨e, n, rfl, hat⟩ := h
      obtain ⟨rfl, rfl⟩ := hat.inv hst
      exact ⟨r.length, rfl, .inl ⟨r, l, hst, rfl⟩⟩
    · exact h
  · exact h
theorem wideE_R {s : List SB} (c : Nat) : ∀ {e : SE} {p : Env}, REnv s e p → REnv s (wideE s c e) p
  | [], _, h => h
  | (t, v) :: r, _, h => by
    obtain ⟨q, qs, rfl, h1, h2⟩ := h
    simp only [wideE]
    cases hb : Nat.beq t c with
    | true => exact ⟨q, qs, rfl, wideV_R h1, h2⟩
    | false => exact ⟨q, qs, rfl, h1, wideE_R c h2⟩
theorem wideAll_R : ∀ (live : List (Nat × Option Nat)) {st : SSt} {p : St}, RSt st p → RSt (wideAll live st) p
  | [], st, p, h => h
  | (t, k) :: r, st, p, h => by
    simp only [wideAll]
    cases hn : Nat.ble 1000000 t with
    | true => exact wideAll_R r ⟨wideE_R _ h.env, h.sto, h.fz, h.kn⟩
    | false => exact wideAll_R r h

theorem norm1S_R {rk : List (Nat × List PT)} {live : List (Nat × Option Nat)} {st st1 : SSt} {p : St} (h : RSt st p) (hn : norm1S rk live st = some st1) : ∃ p1, norm1 live p = some p1 ∧ RSt st1 p1 := by
  unfold norm1S at hn
  cases hc : (sureEnv st.env live && knSure st.sto st.kn) with
  | false => rw [hc] at hn; cases hn
  | true =>
    rw [hc] at hn
    simp only [cond_true] at hn
    simp only [Bool.and_eq_true] at hc
    split at hn
    · cases hn
    · rename_i m hm
      split at hn
      · rename_i s1 e1 s2 h1 h2
        injection hn with hn; subst hn
        have ht : knTk st.sto st.kn ++ liveTk st.env live = (p.sto.take p.kn).flatMap blkToks ++ live.flatMap fun q => toks noBx (lk q.1 p.env) := by
          rw [liveTk_R h.env hc.1, knTk_R (s' := st.sto) st.kn ⟨h.sto.len, h.sto.at_⟩ hc.2, h.kn]
        rw [ht] at hm
        have hm' := reachS_R h.sto _ _ _ _ hm
        have hr : RenS m st.sto (s1 ++ s2) := RenS.of h1
        obtain ⟨p1, a1, a2, a3⟩ := renSto_of h.sto hr h1
        have hlen : s1.length = m.length := (renS_get h1).1
        obtain ⟨pe1, q2, b1, b2, b3, b4⟩ := liveS_R h.env hr h2 (fun j b hj => by rw [← hlen, List.getElem?_append_right (by omega)]; simpa using hj)
        have hsto : RSto (s1 ++ s2) (p1 ++ q2) := ⟨by simp [a2, b3], fun t b ht => by
          rcases Nat.lt_or_ge t s1.length with hl | hl
          · rw [List.getElem?_append_left hl] at ht
            obtain ⟨q, c1, c2⟩ := a3 t b ht
            exact ⟨q, by rw [List.getElem?_append_left (by omega)]; exact c1, c2⟩
          · rw [List.getElem?_append_right hl] at ht
            obtain ⟨q, c1, c2⟩ := b4 _ b ht
            exact ⟨q, by rw [List.getElem?_append_right (by omega), a2]; exact c1, c2⟩⟩
        have hs : SureS (s1 ++ s2) := fun t cs ht => by
          rcases Nat.lt_or_ge t s1.length with hl | hl
          · rw [List.getElem?_append_left hl] at ht
            obtain ⟨b, c, d1, d2, d3⟩ := (renS_get h1).2 t (m[t]'(by omega)) (List.getElem?_eq_getElem (by omega))
            rw [ht] at d3; injection d3 with d3; subst d3
            cases b with
            | box x =>
              simp only [renB] at d2
              split at d2
              · rename_i l hl'; injection d2 with d2; injection d2 with d2; subst d2; exact renVL_sure hl'
              · cases d2
            | arr _ _ => injection d2 with d2; cases d2
            | set _ => injection d2 with d2; cases d2
            | dead => injection d2 with d2; cases d2
          · rw [List.getElem?_append_right hl] at ht
            obtain ⟨r, hr'⟩ := liveS_new h2 _ _ ht
            cases hr'
        have hR : RSS { env := e1, sto := s1 ++ s2, fz := renFz st.fz 0 m, kn := st.kn } { env := pe1, sto := p1 ++ q2, fz := renFz p.fz 0 m, kn := p.kn } :=
          ⟨⟨b2, hsto, by rw [h.fz], h.kn⟩, hs, liveS_sure h2⟩
        refine ⟨_, ?_, wideAll_R live (ownCellsS_R live hR).r⟩
        unfold norm1
        rw [h.kn] at hm'
        rw [h.kn]
        rw [hm']
        dsimp only
        rw [a1, b1]
      · cases hn

theorem normS_R {rk : List (Nat × List PT)} {live : List (Nat × Option Nat)} {st st1 : SSt} {p : St} (h : RSt st p) (hn : normS rk live st = some st1) : ∃ p1, norm live p = some p1 ∧ RSt st1 p1 := by
  unfold normS at hn
  cases h1 : norm1S rk live st with
  | none => rw [h1] at hn; cases hn
  | some s =>
    rw [h1] at hn
    dsimp only at hn
    obtain ⟨p1, h2, h3⟩ := norm1S_R h h1
    unfold norm
    rw [h2]
    dsimp only
    cases ha : (live.any fun p => p.2.isSome) with
    | true =>
      rw [ha] at hn
      simp only [cond_true] at hn
      rw [if_pos rfl]
      exact norm1S_R h3 hn
    | false =>
      rw [ha] at hn
      injection hn with hn
      subst hn
      exact ⟨p1, by rw [if_neg (by simp)], h3⟩

/-! ### what may change -/

mutual
theorem put_ats : ∀ {a b : SV} (q : List Atm), likeV a b = true → putV a (atsV b ++ q) = (b, q)
  | .undef, .undef, q, _ => rfl
  | .nul, .nul, q, _ => rfl
  | .nilf, .nilf, q, _ => rfl
  | .int k _, .int l n, q, h => by rw [kindEq_iff.1 h]; rfl
  | .bool _, .bool _, q, _ => rfl
  | .agg a, .agg b, q, h => by simp only [putV, atsV, put_atsL q h]
  | .tup a, .tup b, q, h => by simp only [putV, atsV, put_atsL q h]
  | .sl r _, .sl r' l, q, h => rfl
  | .nil e c, .nil f d, q, h => by
    simp only [likeV, Bool.and_eq_true, beq_iff_eq] at h
    rw [Nat.eq_of_beq_eq_true h.1, h.2]; rfl
  | .own t x, .own u y, q, h => by
    simp only [likeV, Bool.and_eq_true, beq_iff_eq] at h
    rw [Nat.eq_of_beq_eq_true h.1, h.2]; rfl
  | .pre t _ _ x, .pre u _ _ y, q, h => by
    simp only [likeV, Bool.and_eq_true, beq_iff_eq] at h
    rw [Nat.eq_of_beq_eq_true h.1, h.2]; rfl
  | .part t _ _ _ x, .part u _ _ _ y, q, h => by
    simp only [likeV, Bool.and_eq_true, beq_iff_eq] at h
    rw [Nat.eq_of_beq_eq_true h.1, h.2]; rfl
  | .pb t _ o, .pb u _ p, q, h => by
    simp only [likeV, Bool.and_eq_true] at h
    rw [Nat.eq_of_beq_eq_true h.1, Nat.eq_of_beq_eq_true h.2]; rfl
  | .bp t n o, .bp u m p, q, h => by
    simp only [likeV, Bool.and_eq_true] at h
    rw [Nat.eq_of_beq_eq_true h.1.1, Nat.eq_of_beq_eq_true h.1.2, Nat.eq_of_beq_eq_true h.2]; rfl
  | .rptr a o, .rptr b p, q, h => by
    simp only [likeV, Bool.and_eq_true] at h
    simp only [putV, atsV, put_atsL q h.1, Nat.eq_of_beq_eq_true h.2]
  | .clo f a b, .clo g c d, q, h => by
    simp only [likeV, Bool.and_eq_true] at h
    simp only [putV, atsV, List.append_assoc, put_atsL _ h.1.2, put_atsL q h.2, Nat.eq_of_beq_eq_true h.1.1]
  | .mp t, .mp u, q, h => by rw [Nat.eq_of_beq_eq_true h]; rfl
theorem put_atsL : ∀ {a b : List SV} (q : List Atm), likeL a b = true → putL a (atsL b ++ q) = (b, q)
  | [], [], q, _ => rfl
  | x :: xs, y :: ys, q, h => by
    simp only [likeL, Bool.and_eq_true] at h
    simp only [putL, atsL, List.append_assoc, put_ats _ h.1, put_atsL q h.2]
  | [], _ :: _, _, h => by cases h
  | _ :: _, [], _, h => by cases h
end

theorem put_atsB : ∀ {a b : SB} (q : List Atm), likeB a b = true → putB a (atsB b ++ q) = (b, q)
  | .arr r _, .arr r' l, q, h => rfl
  | .box a, .box b, q, h => by simp only [putB, atsB, put_atsL q h]
  | .set _, .set _, q, _ => rfl
  | .dead, .dead, q, _ => rfl
  | .arr _ _, .box _, _, h | .arr _ _, .set _, _, h | .arr _ _, .dead, _, h | .box _, .arr _ _, _, h | .box _, .set _, _, h | .box _, .dead, _, h | .set _, .arr _ _, _, h | .set _, .box _, _, h | .set _, .dead, _, h | .dead, .arr _ _, _, h | .dead, .box _, _, h | .dead, .set _, _, h => by cases h
theorem put_atsS : ∀ {a b : List SB} (q : List Atm), likeS a b = true → putS a (atsS b ++ q) = (b, q)
  | [], [], q, _ => rfl
  | x :: xs, y :: ys, q, h => by
    simp only [likeS, Bool.and_eq_true] at h
    simp only [putS, atsS, List.append_assoc, put_atsB _ h.1, put_atsS q h.2]
  | [], _ :: _, _, h => by cases h
  | _ :: _, [], _, h => by cases h
theorem put_atsE : ∀ {a b : SE} (q : List Atm), likeE a b = true → putE a (atsE b ++ q) = (b, q)
  | [], [], q, _ => rfl
  | (t, x) :: xs, (u, y) :: ys, q, h => by
    simp only [likeE, Bool.and_eq_true] at h
    simp only [putE, atsE, List.append_assoc, put_ats _ h.1.2, put_atsE q h.2, Nat.eq_of_beq_eq_true h.1.1]
  | [], _ :: _, _, h => by cases h
  | _ :: _, [], _, h => by cases h
theorem likeN_eq : ∀ {a b : List Nat}, likeN a b = true → a = b
  | [], [], _ => rfl
  | x :: xs, y :: ys, h => by
    simp only [likeN, Bool.and_eq_true] at h
    rw [Nat.eq_of_beq_eq_true h.1, likeN_eq h.2]
  | [], _ :: _, h => by cases h
  | _ :: _, [], h => by cases h

theorem put_atsSt {a b : SSt} (h : likeSt a b = true) : putSt a (atsSt b) = b := by
  obtain ⟨e1, s1, z1, k1⟩ := a
  obtain ⟨e2, s2, z2, k2⟩ := b
  simp only [likeSt, Bool.and_eq_true] at h
  obtain ⟨⟨⟨h1, h2⟩, h3⟩, h4⟩ := h
  have hs := put_atsS [] h2
  rw [List.append_nil] at hs
  simp only [putSt, atsSt, put_atsE _ h1, hs, likeN_eq h3, Nat.eq_of_beq_eq_true h4]

theorem AK.of_at : ∀ {a : AK} {x : Atm} {y : a.T}, a.of x = some y → a.at y = x
  | .i, .i _, y, h => by injection h with h; subst h; rfl
  | .b, .b _, y, h => by injection h with h; subst h; rfl
  | .n, .n _, y, h => by injection h with h; subst h; rfl
  | .l r, .l q x, y, h => by obtain ⟨rfl, rfl⟩ := castL_some h; rfl
  | .s, .s _, y, h => by injection h with h; subst h; rfl
  | .i, .b _, _, h | .i, .n _, _, h | .i, .l _ _, _, h | .i, .s _, _, h | .b, .i _, _, h | .b, .n _, _, h | .b, .l _ _, _, h | .b, .s _, _, h | .n, .i _, _, h | .n, .b _, _, h | .n, .l _ _, _, h | .n, .s _, _, h
  | .l _, .i _, _, h | .l _, .b _, _, h | .l _, .n _, _, h | .l _, .s _, _, h | .s, .i _, _, h | .s, .b _, _, h | .s, .n _, _, h | .s, .l _ _, _, h => by cases h
theorem prodOf_ats : ∀ {ks : List AK} {l : List Atm} {y : prodT ks}, prodOf ks l = some y → atsOf ks y = l
  | [], [], y, _ => rfl
  | [a], [x], y, h => by
    have := AK.of_at (a := a) h
    simp only [atsOf, this]
  | a :: q :: r, x :: xs, y, h => by
    simp only [prodOf] at h
    split at h
    · rename_i u v h1 h2
      injection h with h; subst h
      simp only [atsOf, AK.of_at h1, prodOf_ats h2]
    · cases h
  | [], _ :: _, _, h => by cases h
  | [_], [], _, h => by cases h
  | [_], _ :: _ :: _, _, h => by cases h
  | _ :: _ :: _, [], _, h => by cases h

end
end Go.Vm

/- What is known of functions, and what a call of one comes to. -/
namespace Go.Vm

/-! ### results that become the caller's own -/

mutual
def ownP : Nat → PV → Option (PV × Sto)
  | _, .int k n => some (.int k n, [])
  | _, .bool b => some (.bool b, [])
  | nx, .agg cs => match ownPL nx cs with | some r => some (.agg r.1, r.2) | none => none
  | nx, .tup cs => match ownPL nx cs with | some r => some (.tup r.1, r.2) | none => none
  | nx, .sl e false rows => some (.own nx e 0 rows.length rows.length false, [.arr e rows])
  | _, _ => none
def ownPL : Nat → List PV → Option (List PV × Sto)
  | _, [] => some ([], [])
  | nx, x :: xs => match ownP nx x with
    | some a => match ownPL (nx + a.2.length) xs with
      | some b => some (a.1 :: b.1, a.2 ++ b.2)
      | none => none
    | none => none
end

/-- The blocks of a store from a place on. -/
def Behind (s : List SB) (n : Nat) (l : List SB) : Prop := ∀ (j : Nat) (b : SB), l[j]? = some b → s[n + j]? = some b
theorem Behind.left {s : List SB} {n : Nat} {l m : List SB} (h : Behind s n (l ++ m)) : Behind s n l := fun j b hj => h j b (by
  rw [List.getElem?_append_left (List.getElem?_eq_some_iff.1 hj).1]; exact hj)
theorem Behind.right {s : List SB} {n : Nat} {l m : List SB} (h : Behind s n (l ++ m)) : Behind s (n + l.length) m := fun j b hj => by
  have := h (l.length + j) b (by rw [List.getElem?_append_right (by omega)]; simpa using hj)
  rwa [Nat.add_assoc]

/-- Blocks that are told one by one. -/
def RBs (s : List SB) (l : List SB) (q : Sto) : Prop := q.length = l.length ∧ ∀ (j : Nat) (b : SB), l[j]? = some b → ∃ x, q[j]? = some x ∧ RB s b x
theorem RBs.append {s l m : List SB} {q r : Sto} (h : RBs s l q) (k : RBs s m r) : RBs s (l ++ m) (q ++ r) := by
  refine ⟨by simp [h.1, k.1], fun j b hj => ?_⟩
  rcases Nat.lt_or_ge j l.length with hl | hl
  · rw [List.getElem?_append_left hl] at hj
    obtain ⟨x, h1, h2⟩ := h.2 j b hj
    exact ⟨x, by rw [List.getElem?_append_left (by rw [h.1]; exact hl)]; exact h1, h2⟩
  · rw [List.getElem?_append_right hl] at hj
    obtain ⟨x, h1, h2⟩ := k.2 _ b hj
    exact ⟨x, by rw [List.getElem?_append_right (by rw [h.1]; exact hl), h.1]; exact h1, h2⟩
theorem RBs.nil {s : List SB} : RBs s [] [] := ⟨rfl, fun j b h => by simp at h⟩
theorem RBs.one {s : List SB} {b : SB} {x : Blk} (h : RB s b x) : RBs s [b] [x] := ⟨rfl, fun j c hc => by
  cases j with
  | zero => simp at hc; subst hc; exact ⟨x, rfl, h⟩
  | succ j => simp at hc⟩

mutual
theorem ownOf_R : ∀ {v : SV} {nx : Nat} {p0 p : PV} {q : Sto}, pvS v = some p0 → ownP nx p0 = some (p, q) → ∀ {s : List SB}, Behind s nx (ownOf nx v).2 → R s (ownOf nx v).1 p ∧ RBs s (ownOf nx v).2 q
  | .int k n, nx, p0, p, q, h0, h, s, _ => by injection h0 with h0; subst h0; injection h with h; injection h with h1 h2; subst h1 h2; exact ⟨rfl, RBs.nil⟩
  | .bool b, nx, p0, p, q, h0, h, s, _ => by injection h0 with h0; subst h0; injection h with h; injection h with h1 h2; subst h1 h2; exact ⟨rfl, RBs.nil⟩
  | .agg cs, nx, p0, p, q, h0, h, s, hb => by
    simp only [pvS] at h0
    split at h0
    · rename_i l hl
      injection h0 with h0; subst h0
      simp only [ownP] at h
      split at h
      · rename_i r hr
        injection h with h; injection h with h1 h2; subst h1 h2
        obtain ⟨h3, h4⟩ := ownOfL_R (p := r.1) (q := r.2) hl hr hb
        exact ⟨⟨r.1, rfl, h3⟩, h4⟩
      · cases h
    · cases h0
  | .tup cs, nx, p0, p, q, h0, h, s, hb => by
    simp only [pvS] at h0
    split at h0
    · rename_i l hl
      injection h0 with h0; subst h0
      simp only [ownP] at h
      split at h
      · rename_i r hr
        injection h with h; injection h with h1 h2; subst h1 h2
        obtain ⟨h3, h4⟩ := ownOfL_R (p := r.1) (q := r.2) hl hr hb
        exact ⟨⟨r.1, rfl, h3⟩, h4⟩
      · cases h
    · cases h0
  | .sl r l, nx, p0, p, q, h0, h, s, hb => by
    injection h0 with h0; subst h0
    injection h with h; injection h with h1 h2; subst h1 h2
    refine ⟨⟨r.length, l.length, by simp, .inl ⟨r, l, hb 0 _ rfl, rfl, rfl⟩⟩, RBs.one rfl⟩
  | .nil e c, nx, p0, p, q, h0, h, s, hb => by
    injection h0 with h0; subst h0
    cases c with
    | true => simp [ownP] at h
    | false =>
      injection h with h; injection h with h1 h2; subst h1 h2
      exact ⟨⟨e, 0, rfl, .inl ⟨_, [], hb 0 _ rfl, by simp, rfl⟩⟩, RBs.one (by show _ = _; simp)⟩
  | .str _, nx, p0, p, q, h0, h, s, _ => by injection h0 with h0; subst h0; cases h
  | .nilf, nx, p0, p, q, h0, h, s, _ => by injection h0 with h0; subst h0; cases h
  | .rptr cs o, nx, p0, p, q, h0, h, s, _ => by
    simp only [pvS] at h0
    split at h0
    · injection h0 with h0; subst h0; cases h
    · cases h0
  | .clo f a b, nx, p0, p, q, h0, h, s, _ => by
    simp only [pvS] at h0
    split at h0
    · injection h0 with h0; subst h0; cases h
    · cases h0
  | .junk, _, _, _, _, h0, _, _, _ | .undef, _, _, _, _, h0, _, _, _ | .nul, _, _, _, _, h0, _, _, _ | .own _ _, _, _, _, _, h0, _, _, _ | .pre _ _ _ _, _, _, _, _, h0, _, _, _ | .part _ _ _ _ _, _, _, _, _, h0, _, _, _
  | .pa _ _ _ _ _, _, _, _, _, h0, _, _, _ | .pb _ _ _, _, _, _, _, h0, _, _, _ | .bp _ _ _, _, _, _, _, h0, _, _, _ | .mp _, _, _, _, _, h0, _, _, _ => by cases h0
theorem ownOfL_R : ∀ {v : List SV} {nx : Nat} {p0 p : List PV} {q : Sto}, pvL v = some p0 → ownPL nx p0 = some (p, q) → ∀ {s : List SB}, Behind s nx (ownOfL nx v).2 → RL s (ownOfL nx v).1 p ∧ RBs s (ownOfL nx v).2 q
  | [], nx, p0, p, q, h0, h, s, _ => by injection h0 with h0; subst h0; injection h with h; injection h with h1 h2; subst h1 h2; exact ⟨rfl, RBs.nil⟩
  | x :: xs, nx, p0, p, q, h0, h, s, hb => by
    obtain ⟨a, as, rfl, h1, h2⟩ := pvL_cons.1 h0
    simp only [ownPL] at h
    split at h
    · rename_i ra hra
      split at h
      · rename_i rb hrb
        injection h with h; injection h with e1 e2; subst e1 e2
        simp only [ownOfL] at hb ⊢
        obtain ⟨k1, k2⟩ := ownOf_R (p := ra.1) (q := ra.2) h1 hra hb.left
        rw [k2.1] at hrb
        obtain ⟨k3, k4⟩ := ownOfL_R (p := rb.1) (q := rb.2) h2 hrb hb.right
        exact ⟨RL.cons k1 k3, k2.append k4⟩
      · cases h
    · cases h
end

mutual
theorem imOV_R {s : List SB} {ps : Sto} {z : List Nat} (hS : RSto s ps) : ∀ {v v' : SV} {p : PV} {seen seen' : List Nat} (nx : Nat), R s v p → imOV s z seen v = some (v', seen') → ∃ p0 p' q, pvS v' = some p0 ∧ ownP nx p0 = some (p', q) ∧ imO ps z nx seen p = some (p', q, seen')
  | .int k n, v', p, seen, seen', nx, h, hx => by injection hx with hx; injection hx with h1 h2; subst h1 h2; rw [show p = _ from h]; exact ⟨_, _, _, rfl, rfl, rfl⟩
  | .bool k, v', p, seen, seen', nx, h, hx => by injection hx with hx; injection hx with h1 h2; subst h1 h2; rw [show p = _ from h]; exact ⟨_, _, _, rfl, rfl, rfl⟩
  | .agg cs, v', p, seen, seen', nx, h, hx => by
    obtain ⟨q, rfl, h⟩ := h
    simp only [imOV] at hx
    split at hx
    · rename_i r hr
      injection hx with hx; injection hx with h1 h2; subst h1 h2
      obtain ⟨p0, p', q', h3, h4, h5⟩ := imOVL_R hS (v' := r.1) (seen' := r.2) nx h hr
      exact ⟨.agg p0, .agg p', q', by simp only [pvS, h3], by simp only [ownP, h4], by simp only [imO, h5]; rfl⟩
    · cases hx
  | .tup cs, v', p, seen, seen', nx, h, hx => by
    obtain ⟨q, rfl, h⟩ := h
    simp only [imOV] at hx
    split at hx
    · rename_i r hr
      injection hx with hx; injection hx with h1 h2; subst h1 h2
      obtain ⟨p0, p', q', h3, h4, h5⟩ := imOVL_R hS (v' := r.1) (seen' := r.2) nx h hr
      exact ⟨.tup p0, .tup p', q', by simp only [pvS, h3], by simp only [ownP, h4], by simp only [imO, h5]; rfl⟩
    · cases hx
  | .nil e c, v', p, seen, seen', nx, h, hx => by
    cases c with
    | false => cases hx
    | true => injection hx with hx; injection hx with h1 h2; subst h1 h2; rw [show p = _ from h]; exact ⟨_, _, _, rfl, rfl, rfl⟩
  | .own t ex, v', p, seen, seen', nx, h, hx => by
    obtain ⟨e, n, rfl, hat⟩ := h
    simp only [imOV, nth_eq] at hx
    split at hx
    · rename_i r l hst
      obtain ⟨rfl, rfl⟩ := hat.inv hst
      cases hc : (has seen t || has z t) with
      | true => rw [hc] at hx; cases hx
      | false =>
        rw [hc] at hx
        injection hx with hx; injection hx with h1 h2; subst h1 h2
        refine ⟨_, _, _, rfl, rfl, ?_⟩
        simp only [imO, hS.arr hst, hc]
        simp
    · cases hx
  | .junk, _, _, _, _, _, _, hx | .undef, _, _, _, _, _, _, hx | .nul, _, _, _, _, _, _, hx | .nilf, _, _, _, _, _, _, hx | .str _, _, _, _, _, _, _, hx | .sl _ _, _, _, _, _, _, _, hx | .pre _ _ _ _, _, _, _, _, _, _, hx | .part _ _ _ _ _, _, _, _, _, _, _, hx
  | .pa _ _ _ _ _, _, _, _, _, _, _, hx | .pb _ _ _, _, _, _, _, _, _, hx | .bp _ _ _, _, _, _, _, _, _, hx | .rptr _ _, _, _, _, _, _, _, hx | .clo _ _ _, _, _, _, _, _, _, hx | .mp _, _, _, _, _, _, _, hx => by cases hx
theorem imOVL_R {s : List SB} {ps : Sto} {z : List Nat} (hS : RSto s ps) : ∀ {v v' : List SV} {p : List PV} {seen seen' : List Nat} (nx : Nat), RL s v p → imOVL s z seen v = some (v', seen') → ∃ p0 p' q, pvL v' = some p0 ∧ ownPL nx p0 = some (p', q) ∧ imOL ps z nx seen p = some (p', q, seen')
  | [], v', p, seen, seen', nx, h, hx => by injection hx with hx; injection hx with h1 h2; subst h1 h2; rw [show p = _ from h]; exact ⟨_, _, _, rfl, rfl, rfl⟩
  | x :: xs, v', p, seen, seen', nx, h, hx => by
    obtain ⟨a, as, rfl, h1, h2⟩ := h.cons_inv
    simp only [imOVL] at hx
    split at hx
    · rename_i r hr
      split at hx
      · rename_i r2 hr2
        injection hx with hx; injection hx with e1 e2; subst e1 e2
        obtain ⟨p0, p', q, k1, k2, k3⟩ := imOV_R hS (v' := r.1) (seen' := r.2) nx h1 hr
        obtain ⟨p02, p'2, q2, k4, k5, k6⟩ := imOVL_R hS (v' := r2.1) (seen' := r2.2) (nx + q.length) h2 hr2
        exact ⟨p0 :: p02, p' :: p'2, q ++ q2, pvL_cons.2 ⟨_, _, rfl, k1, k4⟩, by simp only [ownPL, k2, k5], by simp only [imOL, k3, k6]⟩
      · cases hx
    · cases hx
end

mutual
theorem norefS_R {s : List SB} : ∀ {v : SV} {p : PV}, R s v p → norefS v = true → p.noref = true
  | .int _ _, p, h, _ | .bool _, p, h, _ | .str _, p, h, _ => by rw [show p = _ from h]; rfl
  | .agg cs, p, h, hn => by obtain ⟨q, rfl, h⟩ := h; exact norefSL_R h hn
  | .tup cs, p, h, hn => by obtain ⟨q, rfl, h⟩ := h; exact norefSL_R h hn
  | .junk, _, _, h | .undef, _, _, h | .nul, _, _, h | .nilf, _, _, h | .sl _ _, _, _, h | .nil _ _, _, _, h | .own _ _, _, _, h | .pre _ _ _ _, _, _, h | .part _ _ _ _ _, _, _, h | .pa _ _ _ _ _, _, _, h | .pb _ _ _, _, _, h | .bp _ _ _, _, _, h | .rptr _ _, _, _, h | .clo _ _ _, _, _, h | .mp _, _, _, h => by cases h
theorem norefSL_R {s : List SB} : ∀ {v : List SV} {p : List PV}, RL s v p → norefSL v = true → norefL p = true
  | [], p, h, _ => by rw [show p = _ from h]; rfl
  | x :: xs, p, h, hn => by
    obtain ⟨a, as, rfl, h1, h2⟩ := h.cons_inv
    simp only [norefSL, Bool.and_eq_true] at hn
    simp only [norefL, norefS_R h1 hn.1, norefSL_R h2 hn.2, Bool.and_self]
end

mutual
theorem yesrefS_R {s : List SB} {u : SV} : ∀ {v : SV} {p : PV}, R s v p → norefS v = false → imV s v = some u → p.noref = false
  | .int _ _, p, h, hn, _ | .bool _, p, h, hn, _ | .str _, p, h, hn, _ => by cases hn
  | .agg cs, p, h, hn, hi => by
    obtain ⟨q, rfl, h⟩ := h
    simp only [imV] at hi
    split at hi
    · rename_i l hl; exact yesrefSL_R h hn hl
    · cases hi
  | .tup cs, p, h, hn, hi => by
    obtain ⟨q, rfl, h⟩ := h
    simp only [imV] at hi
    split at hi
    · rename_i l hl; exact yesrefSL_R h hn hl
    · cases hi
  | .sl _ _, p, h, _, _ => by rw [show p = _ from h]; rfl
  | .nil _ _, p, h, _, _ => by rw [show p = _ from h]; rfl
  | .own _ _, p, h, _, _ => by obtain ⟨e, n, rfl, _⟩ := h; rfl
  | .pre _ _ _ _, p, h, _, _ => by obtain ⟨e, rfl, _⟩ := h; rfl
  | .part _ _ _ _ _, p, h, _, _ => by obtain ⟨e, rfl, _⟩ := h; rfl
  | .junk, _, _, _, h | .undef, _, _, _, h | .nul, _, _, _, h | .nilf, _, _, _, h | .pa _ _ _ _ _, _, _, _, h | .pb _ _ _, _, _, _, h | .bp _ _ _, _, _, _, h | .rptr _ _, _, _, _, h | .clo _ _ _, _, _, _, h | .mp _, _, _, _, h => by cases h
theorem yesrefSL_R {s : List SB} : ∀ {v u : List SV} {p : List PV}, RL s v p → norefSL v = false → imVL s v = some u → norefL p = false
  | [], u, p, h, hn, _ => by cases hn
  | x :: xs, u, p, h, hn, hi => by
    obtain ⟨a, as, rfl, h1, h2⟩ := h.cons_inv
    simp only [imVL] at hi
    split at hi
    · rename_i y ys h3 h4
      simp only [norefSL] at hn
      simp only [norefL]
      cases hx : norefS x with
      | false => rw [yesrefS_R h1 hx h3]; rfl
      | true => rw [hx] at hn; rw [yesrefSL_R h2 (by simpa using hn) h4]; simp
    · cases hi
end

mutual
theorem imV_R {s : List SB} {ps : Sto} (hS : RSto s ps) : ∀ {v u : SV} {p : PV}, R s v p → imV s v = some u → ∃ q, imF ps p = some q ∧ pvS u = some q
  | .int k n, u, p, h, hx => by injection hx with hx; subst hx; rw [show p = _ from h]; exact ⟨_, rfl, rfl⟩
  | .bool b, u, p, h, hx => by injection hx with hx; subst hx; rw [show p = _ from h]; exact ⟨_, rfl, rfl⟩
  | .str x, u, p, h, hx => by injection hx with hx; subst hx; rw [show p = _ from h]; exact ⟨_, rfl, rfl⟩
  | .agg cs, u, p, h, hx => by
    obtain ⟨q, rfl, h⟩ := h
    simp only [imV] at hx
    split at hx
    · rename_i l hl
      injection hx with hx; subst hx
      obtain ⟨q', h1, h2⟩ := imVL_R hS h hl
      exact ⟨.agg q', by simp only [imF, h1]; rfl, by simp only [pvS, h2]⟩
    · cases hx
  | .tup cs, u, p, h, hx => by
    obtain ⟨q, rfl, h⟩ := h
    simp only [imV] at hx
    split at hx
    · rename_i l hl
      injection hx with hx; subst hx
      obtain ⟨q', h1, h2⟩ := imVL_R hS h hl
      exact ⟨.tup q', by simp only [imF, h1]; rfl, by simp only [pvS, h2]⟩
    · cases hx
  | .sl r l, u, p, h, hx => by injection hx with hx; subst hx; rw [show p = _ from h]; exact ⟨_, rfl, rfl⟩
  | .nil e c, u, p, h, hx => by injection hx with hx; subst hx; rw [show p = _ from h]; exact ⟨_, rfl, rfl⟩
  | .own t ex, u, p, h, hx => by
    simp only [imV, nth_eq] at hx
    split at hx
    · rename_i r l hst
      injection hx with hx; subst hx
      obtain ⟨e, n, rfl, hat⟩ := h
      obtain ⟨rfl, rfl⟩ := hat.inv hst
      refine ⟨.sl r.length false (l.map (RT.pv r)), ?_, rfl⟩
      simp only [imF, hS.arr hst, List.drop_zero]
      rw [List.take_of_length_le (by simp)]
    · cases hx
  | .pre t len cap ex, u, p, h, hx => by
    simp only [imV, nth_eq] at hx
    split at hx
    · rename_i r l hst
      injection hx with hx; subst hx
      obtain ⟨e, rfl, hat⟩ := h
      have := hat.inv hst
      subst this
      refine ⟨.sl r.length false ((l.take len).map (RT.pv r)), ?_, rfl⟩
      simp only [imF, hS.arr hst, List.drop_zero, List.map_take]
    · cases hx
  | .part t off len cap ex, u, p, h, hx => by
    simp only [imV, nth_eq] at hx
    split at hx
    · rename_i r l hst
      injection hx with hx; subst hx
      obtain ⟨e, rfl, hat⟩ := h
      have := hat.inv hst
      subst this
      refine ⟨.sl r.length false (((l.drop off).take len).map (RT.pv r)), ?_, rfl⟩
      simp only [imF, hS.arr hst, List.map_take, List.map_drop]
    · cases hx
  | .junk, _, _, _, hx | .undef, _, _, _, hx | .nul, _, _, _, hx | .nilf, _, _, _, hx | .pa _ _ _ _ _, _, _, _, hx | .pb _ _ _, _, _, _, hx | .bp _ _ _, _, _, _, hx | .rptr _ _, _, _, _, hx | .clo _ _ _, _, _, _, hx | .mp _, _, _, _, hx => by cases hx
theorem imVL_R {s : List SB} {ps : Sto} (hS : RSto s ps) : ∀ {v u : List SV} {p : List PV}, RL s v p → imVL s v = some u → ∃ q, imFL ps p = some q ∧ pvL u = some q
  | [], u, p, h, hx => by injection hx with hx; subst hx; rw [show p = _ from h]; exact ⟨_, rfl, rfl⟩
  | x :: xs, u, p, h, hx => by
    obtain ⟨a, as, rfl, h1, h2⟩ := h.cons_inv
    simp only [imVL] at hx
    split at hx
    · rename_i y ys h3 h4
      injection hx with hx; subst hx
      obtain ⟨q, h5, h6⟩ := imV_R hS h1 h3
      obtain ⟨qs, h7, h8⟩ := imVL_R hS h2 h4
      exact ⟨q :: qs, by simp only [imFL, h5, h7], pvL_cons.2 ⟨_, _, rfl, h6, h8⟩⟩
    · cases hx
end

mutual
theorem pvS_R {s : List SB} : ∀ {v : SV} {p : PV}, pvS v = some p → R s v p
  | .int _ _, p, h | .bool _, p, h | .str _, p, h | .nilf, p, h | .sl _ _, p, h | .nil _ _, p, h => by injection h with h; exact h.symm
  | .agg cs, p, h => by
    simp only [pvS] at h
    split at h
    · rename_i l hl; injection h with h; exact ⟨l, h.symm, pvL_R hl⟩
    · cases h
  | .tup cs, p, h => by
    simp only [pvS] at h
    split at h
    · rename_i l hl; injection h with h; exact ⟨l, h.symm, pvL_R hl⟩
    · cases h
  | .rptr cs o, p, h => by
    simp only [pvS] at h
    split at h
    · rename_i l hl; injection h with h; exact ⟨l, h.symm, pvL_R hl⟩
    · cases h
  | .clo f a b, p, h => by
    simp only [pvS] at h
    split at h
    · rename_i x y h1 h2; injection h with h; exact ⟨x, y, h.symm, pvL_R h1, pvL_R h2⟩
    · cases h
  | .junk, _, h | .undef, _, h | .nul, _, h | .own _ _, _, h | .pre _ _ _ _, _, h | .part _ _ _ _ _, _, h | .pa _ _ _ _ _, _, h | .pb _ _ _, _, h | .bp _ _ _, _, h | .mp _, _, h => by cases h
theorem pvL_R {s : List SB} : ∀ {v : List SV} {p : List PV}, pvL v = some p → RL s v p
  | [], p, h => by injection h with h; exact h.symm
  | x :: xs, p, h => by
    obtain ⟨a, as, rfl, h1, h2⟩ := pvL_cons.1 h
    exact RL.cons (pvS_R h1) (pvL_R h2)
end

/-! ### contracts -/

def ResIs (kd : Kd) (n : Nat) (tk : List Nat) (v : SV) (r : Res) : Prop :=
  match kd with
  | .pure => ∃ p, pvS v = some p ∧ r = { v := p, rd := tk }
  | .frz => ∃ p, pvS v = some p ∧ r = { v := p, rd := tk, fr := tk }
  | .own => ∃ p0 p q, pvS v = some p0 ∧ ownP n p0 = some (p, q) ∧ r = { v := p, news := q, rd := tk }

/-- What a contract says. -/
def ConOK (F : Tab) (f : FuncId) (c : Con) : Prop :=
  ∀ (a : c.α) (b : c.β) (as args : List PV) (sto : Sto) (fz : List Nat), c.fn a = some b → pvL (c.args.enc a) = some args → exL sto (exBx sto deep) as = some args →
    ∃ n r, callPure F (run F n) c.ow f as sto fz = some r ∧ ResIs c.kd sto.length (toksL (toksBx sto deep) as) (c.res.enc b) r

def FpCon.va (c : FpCon) (a : prodT c.ka) : List SV := (putL c.ta (atsOf c.ka a)).1
def FpCon.sa (c : FpCon) (a : prodT c.ka) : List SB := (putS c.tb (putL c.ta (atsOf c.ka a)).2).1
def FpCon.vb (c : FpCon) (b : prodT c.ko) : SV := (putV c.tv (atsOf c.ko b)).1
def FpCon.sb (c : FpCon) (b : prodT c.ko) : List SB := (putS c.to (putV c.tv (atsOf c.ko b)).2).1

/-- Blocks that keep their kinds and lengths. -/
def Firm : SB → SB → Prop
  | .arr r l, .arr q m => r = q ∧ m.length = l.length
  | .box _, .box _ => True
  | .set _, .set _ => True
  | .dead, .dead => True
  | _, _ => False

def FpOK (F : Tab) (f : FuncId) (c : FpCon) : Prop :=
  ∀ (a : prodT c.ka) (b : prodT c.ko) (pa : List PV) (ps : Sto), c.fn a = some b → RL (c.sa a) (c.va a) pa → RSto (c.sa a) ps →
    ∃ n v s, run F n (.func f pa ps []) = some (.func v s []) ∧ keepsOut (c.sa a).length v s = true ∧ R (c.sb b) (c.vb b) v ∧ RSto (c.sb b) (s.take (c.sa a).length) ∧ (c.sb b).length = (c.sa a).length ∧
      ∀ (t : Nat) (x y : SB), (c.sa a)[t]? = some x → (c.sb b)[t]? = some y → Firm x y

def ConsOK (F : Tab) : List (Nat × Con) → Prop
  | [] => True
  | (f, c) :: r => ConOK F f c ∧ ConsOK F r
def FpsOK (F : Tab) : List (Nat × FpCon) → Prop
  | [] => True
  | (f, c) :: r => FpOK F f c ∧ FpsOK F r
def CodesOK (F : Tab) : List (Nat × XFunc) → Prop
  | [] => True
  | (f, x) :: r => F f = some (.code x) ∧ CodesOK F r

structure CxOK (F : Tab) (cx : Ctx) : Prop where
  con : ∀ f c, c ∈ cx.con f → ConOK F f c
  fpc : ∀ f c, c ∈ cx.fpc f → FpOK F f c
  code : ∀ f x, cx.code f = some x → F f = some (.code x)

theorem ConsOK.mem {F : Tab} : ∀ {l : List (Nat × Con)}, ConsOK F l → ∀ f c, c ∈ conOf l f → ConOK F f c
  | [], _, f, c, h => by cases h
  | (g, d) :: r, hl, f, c, h => by
    simp only [conOf] at h
    cases hb : Nat.beq g f with
    | true =>
      rw [hb] at h
      have := Nat.eq_of_beq_eq_true hb
      subst this
      simp only [cond_true] at h
      rcases h with _ | ⟨_, h⟩
      · exact hl.1
      · exact ConsOK.mem hl.2 _ c h
    | false => rw [hb] at h; exact ConsOK.mem hl.2 f c h
theorem FpsOK.mem {F : Tab} : ∀ {l : List (Nat × FpCon)}, FpsOK F l → ∀ f c, c ∈ fpcOf l f → FpOK F f c
  | [], _, f, c, h => by cases h
  | (g, d) :: r, hl, f, c, h => by
    simp only [fpcOf] at h
    cases hb : Nat.beq g f with
    | true =>
      rw [hb] at h
      have := Nat.eq_of_beq_eq_true hb
      subst this
      simp only [cond_true] at h
      rcases h with _ | ⟨_, h⟩
      · exact hl.1
      · exact FpsOK.mem hl.2 _ c h
    | false => rw [hb] at h; exact FpsOK.mem hl.2 f c h
theorem CodesOK.mem {F : Tab} : ∀ {l : List (Nat × XFunc)}, CodesOK F l → ∀ f x, codeOf l f = some x → F f = some (.code x)
  | [], _, f, c, h => by cases h
  | (g, d) :: r, hl, f, c, h => by
    simp only [codeOf] at h
    cases hb : Nat.beq g f with
    | true =>
      rw [hb] at h
      have := Nat.eq_of_beq_eq_true hb
      subst this
      injection h with h; subst h
      exact hl.1
    | false => rw [hb] at h; exact CodesOK.mem hl.2 f c h
theorem CxOK.make {F : Tab} {lp : Option Nat} {c : List (Nat × Con)} {p : List (Nat × FpCon)} {x : List (Nat × XFunc)} {rk : List (Nat × List PT)} (h1 : ConsOK F c) (h2 : FpsOK F p) (h3 : CodesOK F x) : CxOK F (mkCx lp c p x rk) :=
  ⟨h1.mem, h2.mem, h3.mem⟩

section
variable {F : Tab} {R' ρ : Type} {w : R' → ρ} {y : ρ} {s : List SB} {ps : Sto} {z : List Nat}

theorem conS_sim {f : FuncId} {m : Bool} {tk : List Nat} {vs : List SV} {k : XRS → Ans R'} (hS : RSto s ps) {as args : List PV} (hx : exL ps (exBx ps deep) as = some args) (hv : pvL vs = some args) (htk : tk = toksL (toksBx ps deep) as) :
    ∀ {l : List Con}, (∀ c ∈ l, ConOK F f c) → conS f m s tk vs k l ρ w = some y → ∃ sr pr, (∃ n, callPure F (run F n) m f as ps z = some pr) ∧ Good s ps sr pr ∧ k (.loc sr) ρ w = some y
  | [], _, h => by cases h
  | c :: l, hl, h => by
    simp only [conS] at h
    cases hd : c.args.dec vs with
    | none => rw [hd] at h; exact conS_sim hS hx hv htk (fun c hc => hl c (List.mem_cons_of_mem _ hc)) h
    | some a =>
      rw [hd] at h
      cases hmo : (m == c.ow) with
      | false =>
        rw [hmo] at h
        exact conS_sim hS hx hv htk (fun c hc => hl c (List.mem_cons_of_mem _ hc)) h
      | true =>
      rw [hmo] at h
      obtain ⟨b, hb, h2⟩ := bindA_some h
      have hm : m = c.ow := by simpa using hmo
      subst hm
      have henc := c.args.law hd hv
      obtain ⟨n, r, hr, hres⟩ := hl c (List.mem_cons_self ..) a b as args ps z hb henc hx
      cases hkd : c.kd with
      | pure =>
        rw [hkd] at h2 hres
        obtain ⟨p, h3, rfl⟩ := hres
        exact ⟨_, _, ⟨n, hr⟩, by rw [← htk]; exact Good.val hS (pvS_R h3), h2⟩
      | frz =>
        rw [hkd] at h2 hres
        obtain ⟨p, h3, rfl⟩ := hres
        exact ⟨_, _, ⟨n, hr⟩, by rw [← htk]; exact Good.val hS (pvS_R h3), h2⟩
      | own =>
        rw [hkd] at h2 hres
        obtain ⟨p0, p, q, h3, h4, rfl⟩ := hres
        rw [hS.len] at h4
        have hbh : Behind (s ++ (ownOf s.length (c.res.enc b)).2) s.length (ownOf s.length (c.res.enc b)).2 := fun j x hj => by
          rw [List.getElem?_append_right (by omega)]; simpa using hj
        obtain ⟨k1, k2⟩ := ownOf_R h3 h4 hbh
        exact ⟨_, _, ⟨n, hr⟩, by rw [← htk]; exact Good.news hS k2.1 k2.2 k1, h2⟩

end
end Go.Vm

/- A call of a function that works on the blocks that are lent to it. -/
namespace Go.Vm

def putAll {α : Type} : List (Nat × α) → List α → List α
  | [], s => s
  | (t, b) :: r, s => putAll r (s.set t b)
theorem applyS_put : ∀ (l : List (Nat × SB)) (s : List SB), applyS l s = putAll l s
  | [], s => rfl
  | (t, b) :: r, s => by simp only [applyS, putAll, setB_eq, applyS_put r]
theorem applyWr_put : ∀ (l : List (Nat × Blk)) (s : Sto), applyWr l s = putAll l s
  | [], s => rfl
  | (t, b) :: r, s => by simp only [applyWr, putAll, applyWr_put r]
theorem putAll_len {α : Type} : ∀ (l : List (Nat × α)) (s : List α), (putAll l s).length = s.length
  | [], s => rfl
  | (t, b) :: r, s => by simp [putAll, putAll_len r]
theorem putAll_out {α : Type} : ∀ (l : List (Nat × α)) (s : List α) (t : Nat), t ∉ l.map (·.1) → (putAll l s)[t]? = s[t]?
  | [], s, t, _ => rfl
  | (u, b) :: r, s, t, h => by
    simp only [List.map_cons, List.mem_cons, not_or] at h
    simp only [putAll]
    rw [putAll_out r _ t h.2, List.getElem?_set]
    simp [Ne.symm h.1]
theorem putAll_in {α : Type} : ∀ (l : List (Nat × α)) (s : List α) (j t : Nat) (b : α), (l.map (·.1)).Nodup → l[j]? = some (t, b) → t < s.length → (putAll l s)[t]? = some b
  | [], s, j, t, b, _, h, _ => by simp at h
  | (u, c) :: r, s, 0, t, b, hn, h, ht => by
    simp at h
    obtain ⟨rfl, rfl⟩ := h
    simp only [List.map_cons, List.nodup_cons] at hn
    simp only [putAll]
    rw [putAll_out r _ u hn.1, List.getElem?_set]
    simp [ht]
  | (u, c) :: r, s, j + 1, t, b, hn, h, ht => by
    simp only [List.map_cons, List.nodup_cons] at hn
    simp only [putAll]
    exact putAll_in r _ j t b hn.2 (by simpa using h) (by simpa using ht)

theorem wrTk_map : ∀ (l : List (Nat × SB)), wrTk l = l.map (·.1)
  | [] => rfl
  | (t, b) :: r => by simp [wrTk, wrTk_map r]
theorem backW_get (g : Nat → Nat) : ∀ (tk : List Nat) (s : List SB), s.length = tk.length → (backW g tk s).map (·.1) = tk ∧ ∀ (j t : Nat) (b : SB), tk[j]? = some t → s[j]? = some b → (backW g tk s)[j]? = some (t, backB g b)
  | [], s, h => ⟨by simp [backW], fun j t b hj => by simp at hj⟩
  | t :: tk, [], h => by simp at h
  | t :: tk, b :: s, h => by
    obtain ⟨h1, h2⟩ := backW_get g tk s (by simpa using h)
    refine ⟨by simp [backW, h1], fun j u c hj hc => ?_⟩
    cases j with
    | zero => simp at hj hc; subst hj hc; rfl
    | succ j => simp only [backW, List.getElem?_cons_succ]; exact h2 j u c (by simpa using hj) (by simpa using hc)
theorem wrBack_get (g : Nat → Nat) : ∀ (tk : List Nat) (s : Sto), tk.length ≤ s.length → (wrBack g tk s).map (·.1) = tk ∧ ∀ (j t : Nat) (b : Blk), tk[j]? = some t → s[j]? = some b → (wrBack g tk s)[j]? = some (t, renFB g b)
  | [], s, h => ⟨by simp [wrBack], fun j t b hj => by simp at hj⟩
  | t :: tk, [], h => by simp at h
  | t :: tk, b :: s, h => by
    obtain ⟨h1, h2⟩ := wrBack_get g tk s (by simpa using h)
    refine ⟨by simp [wrBack, h1], fun j u c hj hc => ?_⟩
    cases j with
    | zero => simp at hj hc; subst hj hc; rfl
    | succ j => simp only [wrBack, List.getElem?_cons_succ]; exact h2 j u c (by simpa using hj) (by simpa using hc)

theorem nodupW_of : ∀ {l : List (Nat × Blk)}, (l.map (·.1)).Nodup → nodupW l = true
  | [], _ => rfl
  | p :: r, h => by
    simp only [List.map_cons, List.nodup_cons] at h
    simp only [nodupW, Bool.and_eq_true, List.all_eq_true, Bool.not_eq_true']
    refine ⟨fun q hq => ?_, nodupW_of h.2⟩
    cases hb : Nat.beq q.1 p.1 with
    | false => rfl
    | true => exact absurd (List.mem_map.2 ⟨q, hq, Nat.eq_of_beq_eq_true hb⟩) h.1

theorem dgS_nil : ∀ (s : List SB), dgS [] s = s
  | [] => rfl
  | b :: r => by
    simp only [dgS, dgS_nil r]
    cases b <;> simp [dgB, dgL_nil]
theorem stoOf_eq (s : List SB) (r : SRes) : r.stoOf s = dgS (wrTk r.wr) (applyS r.wr s) ++ r.news := by
  unfold SRes.stoOf
  split
  · rename_i h; rw [h]; simp only [wrTk, applyS, dgS_nil, apS_eq]
  · simp only [apS_eq]

/-- Blocks that are found again under other numbers. -/
def Back (g : Nat → Nat) (s s2 : List SB) : Prop := ∀ (u : Nat) (x : SB), s[u]? = some x → match x with
  | .arr r l => s2[g u]? = some (.arr r l)
  | .dead => s2[g u]? = some .dead
  | _ => True

mutual
theorem backV_R {g : Nat → Nat} {s s2 : List SB} (hb : Back g s s2) : ∀ {v : SV} {p : PV}, R s v p → R s2 (backV g v) (renF g p)
  | .junk, _, _ => trivial
  | .undef, p, h | .nul, p, h | .nilf, p, h | .int _ _, p, h | .bool _, p, h | .str _, p, h | .sl _ _, p, h | .nil _ _, p, h | .bp _ _ _, p, h | .mp _, p, h => by rw [show p = _ from h]; rfl
  | .agg cs, p, h => by obtain ⟨q, rfl, h⟩ := h; exact ⟨_, rfl, backL_R hb h⟩
  | .tup cs, p, h => by obtain ⟨q, rfl, h⟩ := h; exact ⟨_, rfl, backL_R hb h⟩
  | .rptr cs o, p, h => by obtain ⟨q, rfl, h⟩ := h; exact ⟨_, rfl, backL_R hb h⟩
  | .clo f a b, p, h => by obtain ⟨pa, pb, rfl, h1, h2⟩ := h; exact ⟨_, _, rfl, backL_R hb h1, backL_R hb h2⟩
  | .own t ex, p, h => by
    obtain ⟨e, n, rfl, hat⟩ := h
    refine ⟨e, n, rfl, ?_⟩
    rcases hat with ⟨r, l, h1, h2, h3⟩ | h1
    · exact .inl ⟨r, l, hb t _ h1, h2, h3⟩
    · exact .inr (hb t _ h1)
  | .pre t a b c, p, h => by
    obtain ⟨e, rfl, hat⟩ := h
    refine ⟨e, rfl, ?_⟩
    rcases hat with ⟨r, l, h1, h2⟩ | h1
    · exact .inl ⟨r, l, hb t _ h1, h2⟩
    · exact .inr (hb t _ h1)
  | .part t o a b c, p, h => by
    obtain ⟨e, rfl, hat⟩ := h
    refine ⟨e, rfl, ?_⟩
    rcases hat with ⟨r, l, h1, h2⟩ | h1
    · exact .inl ⟨r, l, hb t _ h1, h2⟩
    · exact .inr (hb t _ h1)
  | .pa t r i a o, p, h => by
    obtain ⟨rfl, hat⟩ := h
    refine ⟨_, rfl, ?_⟩
    rcases hat with ⟨l, h1, h2⟩ | h1
    · exact .inl ⟨r, l, hb t _ h1, by rw [h2]; rfl⟩
    · exact .inr (hb t _ h1)
  | .pb t i o, p, h => by
    obtain ⟨e, rfl, hat⟩ := h
    refine ⟨e, rfl, ?_⟩
    rcases hat with ⟨r, l, h1, h2⟩ | h1
    · exact .inl ⟨r, l, hb t _ h1, h2⟩
    · exact .inr (hb t _ h1)
theorem backL_R {g : Nat → Nat} {s s2 : List SB} (hb : Back g s s2) : ∀ {v : List SV} {p : List PV}, RL s v p → RL s2 (backL g v) (renFL g p)
  | [], p, h => by rw [show p = _ from h]; rfl
  | x :: xs, p, h => by
    obtain ⟨a, as, rfl, h1, h2⟩ := h.cons_inv
    exact RL.cons (backV_R hb h1) (backL_R hb h2)
end

theorem firmAll_of : ∀ {a b : Sto}, (∀ (t : Nat) (x : Blk), a[t]? = some x → ∃ y, b[t]? = some y ∧ x.solid = y.solid) → firmAll a b = true
  | [], b, _ => by cases b <;> rfl
  | x :: a, [], h => by obtain ⟨y, hy, _⟩ := h 0 x rfl; simp at hy
  | x :: a, y :: b, h => by
    obtain ⟨y', h1, h2⟩ := h 0 x rfl
    simp at h1; subst h1
    have := firmAll_of (a := a) (b := b) (fun t x hx => by simpa using h (t + 1) x (by simpa using hx))
    simp only [firmAll, this, Bool.and_true, h2]
    cases y.solid <;> rfl

section
variable {F : Tab} {R' ρ : Type} {w : R' → ρ} {y : ρ} {s : List SB} {ps : Sto} {z : List Nat}

theorem fpS_sim {f : FuncId} {tk : List Nat} {vals vs : List SV} {s0 : List SB} {k : XRS → Ans R'} (hS : RSto s ps) {pas : List PV} (hv : RL s vals pas) (htk : tk = dedup (toksL (toksBx ps deep) pas)) (hz : (tk.all fun t => !has z t) = true)
    (h1 : renVL tk vals = some vs) (h2 : renS s tk tk = some s0) :
    ∀ {l : List FpCon}, (∀ c ∈ l, FpOK F f c) → fpS f s.length tk vs s0 k l ρ w = some y → ∃ sr pr, (∃ n, callFp (run F n) f pas ps z = some pr) ∧ Good s ps sr pr ∧ k (.loc sr) ρ w = some y
  | [], _, h => by cases h
  | c :: l, hl, h => by
    have next : fpS f s.length tk vs s0 k l ρ w = some y → ∃ sr pr, (∃ n, callFp (run F n) f pas ps z = some pr) ∧ Good s ps sr pr ∧ k (.loc sr) ρ w = some y :=
      fun h => fpS_sim hS hv htk hz h1 h2 (fun c hc => hl c (List.mem_cons_of_mem _ hc)) h
    simp only [fpS] at h
    cases hlk : (likeL c.ta vs && likeS c.tb s0) with
    | false => rw [hlk] at h; exact next h
    | true =>
      rw [hlk] at h
      simp only [cond_true] at h
      cases hpo : prodOf c.ka (atsL vs ++ atsS s0) with
      | none => rw [hpo] at h; exact next h
      | some a =>
        rw [hpo] at h
        obtain ⟨b, hb, h3⟩ := bindA_some h
        simp only [Bool.and_eq_true] at hlk
        have hats := prodOf_ats hpo
        have hva : c.va a = vs := by unfold FpCon.va; rw [hats, put_atsL _ hlk.1]
        have hsa : c.sa a = s0 := by
          unfold FpCon.sa; rw [hats, put_atsL _ hlk.1]
          have := put_atsS [] hlk.2
          rw [List.append_nil] at this
          rw [this]
        have hren : RenS tk s s0 := by have := RenS.of (l := []) h2; rwa [List.append_nil] at this
        obtain ⟨pa', a1, a2⟩ := renVL_R hren hv h1
        obtain ⟨p0, b1, b2, b3⟩ := renSto_of hS hren h2
        have hs0 : RSto s0 p0 := ⟨b2, b3⟩
        obtain ⟨hs0l, hs0g⟩ := renS_get h2
        obtain ⟨n, v, sr, r1, r2, r3, r4, r5, r6⟩ := hl c (List.mem_cons_self ..) a b pa' p0 hb (by rw [hva, hsa]; exact a2) (by rw [hsa]; exact hs0)
        rw [hsa] at r2 r4 r5 r6
        have hnd : tk.Nodup := by rw [htk]; exact dedup_nodup
        have htl : ∀ t ∈ tk, t < s.length := fun t ht => by
          obtain ⟨j, hj, he⟩ := List.getElem_of_mem ht
          obtain ⟨x, c', d1, _, _⟩ := hs0g j t (by rw [List.getElem?_eq_getElem hj, he])
          exact (List.getElem?_eq_some_iff.1 d1).1
        have hsbl : (c.sb b).length = tk.length := by rw [r5, hs0l]
        have hsrl : tk.length ≤ sr.length := by
          have := r4.len
          rw [List.length_take, hsbl] at this
          rw [hs0l] at this
          omega
        have htake : ∀ j, j < tk.length → (sr.take s0.length)[j]? = sr[j]? := fun j hj => List.getElem?_take_of_lt (by rw [hs0l]; exact hj)
        -- blocks keep their kinds
        have hfirm : firmAll p0 sr = true := firmAll_of (fun t x hx => by
          have htl' : t < s0.length := by have := (List.getElem?_eq_some_iff.1 hx).1; rw [b2] at this; exact this
          obtain ⟨x0, hx0⟩ : ∃ x0, s0[t]? = some x0 := ⟨s0[t], List.getElem?_eq_getElem htl'⟩
          obtain ⟨q, q1, q2⟩ := b3 t x0 hx0
          rw [hx] at q1; injection q1 with q1; subst q1
          obtain ⟨y0, hy0⟩ : ∃ y0, (c.sb b)[t]? = some y0 := ⟨(c.sb b)[t]'(by omega), List.getElem?_eq_getElem (by omega)⟩
          obtain ⟨q', q3, q4⟩ := r4.at_ t y0 hy0
          rw [htake t (by omega)] at q3
          refine ⟨q', q3, ?_⟩
          have hfm := r6 t x0 y0 hx0 hy0
          cases x0 with
          | arr r l => cases y0 with
            | arr r' l' =>
              obtain ⟨rfl, hll⟩ := hfm
              rw [show x = _ from q2, show q' = _ from q4]
              cases l <;> cases l' <;> simp_all [Blk.solid]
            | _ => exact hfm.elim
          | box cs => cases y0 with
            | box cs' => obtain ⟨_, rfl, _⟩ := q2; obtain ⟨_, rfl, _⟩ := q4; rfl
            | _ => exact hfm.elim
          | set l => cases y0 with
            | set l' => rw [show x = _ from q2, show q' = _ from q4]; rfl
            | _ => exact hfm.elim
          | dead => cases y0 with
            | dead => rw [show x = _ from q2, show q' = _ from q4]
            | _ => exact hfm.elim)
        let g := backTok tk s.length
        have hg : ∀ j t, tk[j]? = some t → g j = t := fun j t hj => by show backTok tk s.length j = t; unfold backTok; rw [hj]
        obtain ⟨w1, w2⟩ := backW_get g tk (c.sb b) hsbl
        obtain ⟨u1, u2⟩ := wrBack_get g tk sr hsrl
        -- the store behind the call
        let s2 := dgS tk (applyS (backW g tk (c.sb b)) s)
        have hin : ∀ (j t : Nat) (x : SB), tk[j]? = some t → (c.sb b)[j]? = some x → s2[t]? = some (dgB tk (backB g x)) := fun j t x hj hx => by
          show (dgS tk _)[t]? = _
          rw [dgS_get, applyS_put, putAll_in _ s j t _ (by rw [w1]; exact hnd) (w2 j t x hj hx) (htl t (List.mem_of_getElem? hj))]
          rfl
        have hout : ∀ (t : Nat), t ∉ tk → s2[t]? = (s[t]?).map (dgB tk) := fun t ht => by
          show (dgS tk _)[t]? = _
          rw [dgS_get, applyS_put, putAll_out _ s t (by rw [w1]; exact ht)]
        have hmem : ∀ t ∈ tk, ∃ j, tk[j]? = some t := fun t ht => by
          obtain ⟨j, hj, he⟩ := List.getElem_of_mem ht
          exact ⟨j, by rw [List.getElem?_eq_getElem hj, he]⟩
        have hfr : Fr tk s s2 := fun t x hx => by
          by_cases ht : t ∈ tk
          · obtain ⟨j, hj⟩ := hmem t ht
            have hjl : j < tk.length := (List.getElem?_eq_some_iff.1 hj).1
            obtain ⟨x', c', d1, d2, d3⟩ := hs0g j t hj
            rw [hx] at d1; injection d1 with d1; subst d1
            obtain ⟨y0, hy0⟩ : ∃ y0, (c.sb b)[j]? = some y0 := ⟨(c.sb b)[j]'(by omega), List.getElem?_eq_getElem (by omega)⟩
            have hfm := r6 j c' y0 d3 hy0
            have hs2 := hin j t y0 hj hy0
            cases x with
            | arr r l =>
              injection d2 with d2; subst d2
              cases y0 with
              | arr r' l' =>
                obtain ⟨rfl, hll⟩ := hfm
                refine .inl ⟨l', hs2, hll, fun hb => ?_⟩
                exfalso
                have : has tk t = true := by unfold has; rw [List.any_eq_true]; exact ⟨t, ht, by simp⟩
                rw [this] at hb; cases hb
              | _ => exact hfm.elim
            | dead =>
              injection d2 with d2; subst d2
              cases y0 with
              | dead => exact hs2
              | _ => exact hfm.elim
            | _ => trivial
          · have := hout t ht
            rw [hx] at this
            cases x with
            | arr r l => exact .inl ⟨l, this, rfl, fun _ => rfl⟩
            | dead => exact this
            | _ => trivial
        have hback : Back g (c.sb b) s2 := fun u x hx => by
          have hul : u < tk.length := by have := (List.getElem?_eq_some_iff.1 hx).1; omega
          have hj : tk[u]? = some tk[u] := List.getElem?_eq_getElem hul
          have := hin u _ x hj hx
          rw [hg u _ hj]
          cases x with
          | arr r l => exact this
          | dead => exact this
          | _ => trivial
        have hRes : (∃ n, callFp (run F n) f pas ps z = some { v := renF g v, wr := wrBack g tk sr }) := by
          refine ⟨n, ?_⟩
          unfold callFp lend
          rw [← htk, if_pos hz, a1, b1]
          dsimp only
          rw [r1]
          dsimp only
          unfold takeBack
          rw [if_pos hfirm, hS.len]
          have : keepsOut tk.length v sr = true := by rw [← hs0l]; exact r2
          rw [if_pos this]
        refine ⟨{ v := backV g (c.vb b), wr := backW g tk (c.sb b) }, _, hRes, ?_, h3⟩
        have hst : SRes.stoOf s { v := backV g (c.vb b), wr := backW g tk (c.sb b) } = s2 := by
          rw [stoOf_eq, List.append_nil, wrTk_map, w1]
        exact {
          rd := rfl
          fr := rfl
          wr := by rw [wrTk_map, w1]; exact u1
          nw := nodupW_of (by rw [u1]; exact hnd)
          nl := rfl
          sto := by
            rw [hst]
            show RSto s2 (applyWr (wrBack g tk sr) ps)
            rw [applyWr_put]
            refine ⟨by rw [putAll_len, dgS_len, applyS_put, putAll_len, hS.len], fun t x hx => ?_⟩
            by_cases ht : t ∈ tk
            · obtain ⟨j, hj⟩ := hmem t ht
              have hjl : j < tk.length := (List.getElem?_eq_some_iff.1 hj).1
              obtain ⟨y0, hy0⟩ : ∃ y0, (c.sb b)[j]? = some y0 := ⟨(c.sb b)[j]'(by omega), List.getElem?_eq_getElem (by omega)⟩
              have hs2 := hin j t y0 hj hy0
              rw [hx] at hs2; injection hs2 with hs2; subst hs2
              obtain ⟨q', q3, q4⟩ := r4.at_ j y0 hy0
              rw [htake j hjl] at q3
              refine ⟨renFB g q', putAll_in _ ps j t _ (by rw [u1]; exact hnd) (u2 j t q' hj q3) (by rw [hS.len]; exact htl t ht), ?_⟩
              cases y0 with
              | box cs =>
                obtain ⟨pc, rfl, hpc⟩ := q4
                exact ⟨_, rfl, RL.fr (Fr.refl tk s2) (backL_R hback hpc)⟩
              | arr r l => rw [show q' = _ from q4]; rfl
              | set l => rw [show q' = _ from q4]; rfl
              | dead => rw [show q' = _ from q4]; rfl
            · rw [hout t ht, Option.map_eq_some_iff] at hx
              obtain ⟨x0, hx0, rfl⟩ := hx
              obtain ⟨q, q1, q2⟩ := hS.at_ t x0 hx0
              exact ⟨q, by rw [putAll_out _ ps t (by rw [u1]; exact ht)]; exact q1, q2.fr hfr⟩
          v := by rw [hst]; exact backV_R hback r3
          fra := by rw [hst, wrTk_map, w1]; exact hfr }

end
end Go.Vm

/- What the typed machine makes of a function is what the logical machine runs. -/
namespace Go.Vm
section
variable {F : Tab}

/-! ### rules -/

theorem WO.shrAny {o : XOper} {r : List XOper} {st : St} {tr : List Tr} {Q : St → List Tr → Prop} {f : FuncId} {args : List PV}
    (hw : wanted o.guard st.env = some true) (hop : ∀ n, evX F (run F n) st.env st.sto st.fz o.op = callShared (run F n) f args st.sto st.fz)
    (h : Does F f args st.sto st.fz fun v s z => (Nat.ble st.sto.length s.length && st.fz.all (has z)) = true ∧ WO F r { st with env := putEnv o.dst v st.env, sto := s, fz := z } (trShr :: tr) Q) :
    WO F (o :: r) st tr Q := by
  obtain ⟨n, v, s, z, hr, hc, hk⟩ := h
  refine WO.call (.shr v s z) hw ⟨n, ?_⟩ rfl hk
  rw [hop]
  simp only [callShared, hr]
  rw [if_pos hc]

theorem WP.again {live : List (Nat × Option Nat)} {b : XCode} {st s1 : St} {Q : XExit → St → Prop} (h0 : norm live st = some s1) (h : WP F b s1 (andThen (fun s => WP F (.loop live b) s Q) Q)) : WP F (.loop live b) st Q := by
  obtain ⟨m, e, s, he, hq⟩ := h
  cases e with
  | normal =>
    obtain ⟨k, e', s', he', hq'⟩ := hq
    refine ⟨max m k + 1, e', s', ?_, hq'⟩
    simp only [evC] at he' ⊢
    rw [run_succ]
    simp only [step, h0]
    rw [evC_mono (run_mono F (Nat.le_max_left m k)) _ _ _ he]
    dsimp only
    split at he'
    · rename_i e1 s1 hr1
      rw [run_mono F (Nat.le_max_right m k) _ _ hr1]
      exact he'
    · cases he'
  | exit i => exact ⟨m + 1, .exit i, s, by simp only [evC]; rw [run_succ]; simp only [step, h0, he], hq⟩
  | ret => exact ⟨m + 1, .ret, s, by simp only [evC]; rw [run_succ]; simp only [step, h0, he], hq⟩

/-! ### calls -/

/-- What it takes to walk a function's code in place. -/
def InlOK (F : Tab) (inl : Inl) : Prop :=
  ∀ (f : FuncId) (args : List SV) (s : List SB) (z : List Nat) (R' : Type) (k : SV → List SB → List Nat → Ans R') (ρ : Type) (w : R' → ρ) (y : ρ) (pa : List PV) (ps : Sto) (Q : R' → PV → Sto → List Nat → Prop),
    RL s args pa → RSto s ps → inl f args s z R' k ρ w = some y →
    (∀ v s' z' p ps' ρ' (w' : R' → ρ') y', R s' v p → RSto s' ps' → k v s' z' ρ' w' = some y' → ∃ r, y' = w' r ∧ Q r p ps' z') →
    ∃ r, y = w r ∧ Does F f pa ps z (fun p ps' z' => Q r p ps' z')

def SameB : SB → SB → Prop
  | .arr r l, b => (∃ l', b = .arr r l' ∧ l'.length = l.length) ∨ b = .dead
  | .dead, b => b = .dead
  | _, _ => True

theorem sameLen_some {R' ρ : Type} {w : R' → ρ} {y : ρ} : ∀ {s s' : List SB} {k : Ans R'}, sameLen s s' k ρ w = some y → k ρ w = some y ∧ s.length ≤ s'.length ∧
    ∀ (t : Nat) (b : SB), s[t]? = some b → ∃ b', s'[t]? = some b' ∧ SameB b b'
  | [], s', k, h => ⟨by cases s' <;> exact h, Nat.zero_le _, fun t b ht => by simp at ht⟩
  | x :: xs, [], k, h => by cases h
  | x :: xs, y' :: ys, k, h => by
    have step : ∀ (_ : sameLen xs ys k ρ w = some y) (_ : SameB x y'), k ρ w = some y ∧ (x :: xs).length ≤ (y' :: ys).length ∧ ∀ (t : Nat) (b : SB), (x :: xs)[t]? = some b → ∃ b', (y' :: ys)[t]? = some b' ∧ SameB b b' := by
      intro h hx
      obtain ⟨h1, h2, h3⟩ := sameLen_some h
      refine ⟨h1, by simpa using h2, fun t b ht => ?_⟩
      cases t with
      | zero => simp at ht; subst ht; exact ⟨y', rfl, hx⟩
      | succ t => simpa using h3 t b (by simpa using ht)
    cases x with
    | arr r l =>
      cases y' with
      | arr q m =>
        obtain ⟨hr, h2⟩ := bif_some (a := condA (m.length == l.length) (sameLen xs ys k) failA) h
        obtain ⟨hl, h3⟩ := condF_some h2
        have := rSame_eq hr
        subst this
        exact step h3 (.inl ⟨m, rfl, by simpa using hl⟩)
      | dead => exact step h (.inr rfl)
      | _ => cases h
    | dead =>
      cases y' with
      | dead => exact step h rfl
      | _ => cases h
    | box cs => exact step h trivial
    | set l => exact step h trivial

theorem has_upTo {n t : Nat} (h : t < n) : has (upTo n) t = true := by
  induction n with
  | zero => omega
  | succ n ih =>
    unfold has at ih ⊢
    rw [List.any_eq_true] at *
    simp only [upTo, List.mem_append, List.mem_singleton]
    rcases Nat.lt_or_ge t n with h1 | h1
    · obtain ⟨x, h2, h3⟩ := ih h1
      exact ⟨x, .inl h2, h3⟩
    · have : t = n := by omega
      subst this
      exact ⟨t, .inr rfl, by simp⟩

theorem sameLen_fr {s s' : List SB} (h : ∀ (t : Nat) (b : SB), s[t]? = some b → ∃ b', s'[t]? = some b' ∧ SameB b b') : Fr (upTo s.length) s s' := fun t b hb => by
  obtain ⟨b', h1, h2⟩ := h t b hb
  have hlt := (List.getElem?_eq_some_iff.1 hb).1
  cases b with
  | arr r l =>
    rcases h2 with ⟨l', rfl, h3⟩ | rfl
    · exact .inl ⟨l', h1, h3, fun hx => by rw [has_upTo hlt] at hx; cases hx⟩
    · exact .inr h1
  | dead => rw [show b' = .dead from h2] at h1; exact h1
  | _ => trivial

theorem tr_eq {s : List SB} {ps : Sto} {sr : SRes} {pr : Res} (G : Good s ps sr pr) (hS : RSto s ps) : (XR.loc pr).tr ps.length = sr.tr s.length := by
  simp only [XR.tr, SRes.tr, G.rd, G.fr, hS.len, ← G.wr, G.nl, List.all_map]
  have : pr.news.isEmpty = sr.news.isEmpty := by
    have := G.nl
    cases h1 : pr.news <;> cases h2 : sr.news <;> simp_all
  rw [this]
  rfl

theorem next_R {st : SSt} {p : St} (h : RSt st p) {sr : SRes} {pr : Res} (G : Good st.sto p.sto sr pr) (d : Option Nat) : RSt (sr.next d st) ((XR.loc pr).next d p) := by
  have hput : ∀ {s : List SB} {e : SE} {pe : Env} {v : SV} {q : PV}, REnv s e pe → R s v q → REnv s (putD d v e) (putEnv d q pe) := by
    intro s e pe v q he hv
    cases d with
    | none => exact he
    | some t => exact ⟨q, pe, rfl, hv, he⟩
  have hs := stoOf_eq st.sto sr
  unfold SRes.next
  split
  · rename_i hw
    rw [hw] at hs
    simp only [wrTk, applyS, dgS_nil] at hs
    have hsto := G.sto
    have hv := G.v
    have hfr := G.fra
    rw [hs] at hsto hv hfr
    rw [hw] at hfr
    exact ⟨by simp only [apS_eq]; exact hput (REnv.ext hfr h.env) hv, by simp only [apS_eq]; exact hsto, by simp only [XR.next, G.fr, h.fz], h.kn⟩
  · have hsto := G.sto
    have hv := G.v
    have hfr := G.fra
    rw [hs] at hsto hv hfr
    exact ⟨by simp only [apS_eq]; exact hput (REnv.fr hfr h.env) hv, by simp only [apS_eq]; exact hsto, by simp only [XR.next, G.fr, h.fz], h.kn⟩

theorem ok_eq {s : List SB} {ps : Sto} {sr : SRes} {pr : Res} (G : Good s ps sr pr) {z : List Nat} (h : sr.ok z = true) : (XR.loc pr).ok z = true := by
  simp only [XR.ok, G.nw, Bool.and_true]
  unfold SRes.ok at h
  rw [← G.wr, List.all_map] at h
  exact h

/-! ### regions -/

section
variable {cx : Ctx} {inl : Inl} {R' : Type}

/-- What is asked of what follows a region. -/
def KOps (F : Tab) (k : SSt → List Tr → Ans R') (Q : R' → St → List Tr → Prop) : Prop :=
  ∀ st p tr ρ (w : R' → ρ) y, RSt st p → k st tr ρ w = some y → ∃ r, y = w r ∧ Q r p tr

theorem goS_loc {o : XOper} {l : List XOper} {st : SSt} {p : St} {tr : List Tr} {k : SSt → List Tr → Ans R'} {ρ : Type} {w : R' → ρ} {y : ρ} {Q : R' → St → List Tr → Prop}
    (hl : ∀ st p tr ρ (w : R' → ρ) y, RSt st p → k st tr ρ w = some y → ∃ r, y = w r ∧ WO F l p tr (Q r)) (h : RSt st p) {sr : SRes} {pr : Res} (hw : wanted o.guard p.env = some true)
    (hx : ∃ n, evX F (run F n) p.env p.sto p.fz o.op = some (.loc pr)) (G : Good st.sto p.sto sr pr) (hg : goS o.dst st tr k (.loc sr) ρ w = some y) : ∃ r, y = w r ∧ WO F (o :: l) p tr (Q r) := by
  unfold goS at hg
  dsimp only at hg
  obtain ⟨hok, hg⟩ := bif_some hg
  rw [seqV_eq] at hg
  have hR := next_R h G o.dst
  obtain ⟨r, hr, hwo⟩ := hl _ _ _ _ _ _ hR hg
  refine ⟨r, hr, WO.call (.loc pr) hw hx (by rw [h.fz]; exact ok_eq G hok) ?_⟩
  rw [tr_eq G h.sto]
  exact hwo

theorem callS_sound (hcx : CxOK F cx) (hinl : InlOK F inl) {o : XOper} {l : List XOper} {st : SSt} {p : St} {tr : List Tr} {k : SSt → List Tr → Ans R'} {ρ : Type} {w : R' → ρ} {y : ρ} {Q : R' → St → List Tr → Prop}
    (hl : ∀ st p tr ρ (w : R' → ρ) y, RSt st p → k st tr ρ w = some y → ∃ r, y = w r ∧ WO F l p tr (Q r)) (h : RSt st p) (hw : wanted o.guard p.env = some true)
    (hg : callS cx inl st.env st.sto st.fz o.op (goS o.dst st tr k) ρ w = some y) : ∃ r, y = w r ∧ WO F (o :: l) p tr (Q r) := by
  have hS := h.sto
  have hE := h.env
  -- a call that works on the blocks themselves
  have shr : ∀ (f : FuncId) (vals : List SV) (pas : List PV), RL st.sto vals pas → (∀ n, evX F (run F n) p.env p.sto p.fz o.op = callShared (run F n) f pas p.sto p.fz) →
      inl f vals st.sto st.fz R' (fun v s' z' => goS o.dst st tr k (.shr v s' z')) ρ w = some y → ∃ r, y = w r ∧ WO F (o :: l) p tr (Q r) := by
    intro f vals pas hv hop hi
    obtain ⟨r, hr, hd⟩ := hinl f vals st.sto st.fz R' _ ρ w y pas p.sto (fun r v s z => (Nat.ble p.sto.length s.length && p.fz.all (has z)) = true ∧ WO F l { p with env := putEnv o.dst v p.env, sto := s, fz := z } (trShr :: tr) (Q r)) hv hS hi
      (fun v s' z' pv ps' ρ' w' y' hR hS' hk => by
        unfold goS at hk
        dsimp only at hk
        rw [seqV_eq] at hk
        obtain ⟨hk, hlen, hsame⟩ := sameLen_some hk
        obtain ⟨hz, hk⟩ := bif_some hk
        have hfr := sameLen_fr hsame
        have hput : REnv s' (putD o.dst v (dgE (upTo st.sto.length) st.env)) (putEnv o.dst pv p.env) := by
          cases o.dst with
          | none => exact REnv.fr hfr hE
          | some t => exact ⟨pv, p.env, rfl, hR, REnv.fr hfr hE⟩
        have hR' : RSt { env := putD o.dst v (dgE (upTo st.sto.length) st.env), sto := s', fz := z', kn := st.kn } { p with env := putEnv o.dst pv p.env, sto := ps', fz := z' } := ⟨hput, hS', rfl, h.kn⟩
        obtain ⟨r, hr, hwo⟩ := hl _ _ _ _ _ _ hR' hk
        refine ⟨r, hr, ?_, hwo⟩
        rw [h.fz, hz, Bool.and_true, hS.len, hS'.len]
        simpa using hlen)
    refine ⟨r, hr, WO.shrAny hw hop ?_⟩
    rw [h.fz]
    rw [h.fz] at hd
    exact hd
  have loc : ∀ {k' : SRes → Ans R'}, evS st.env st.sto st.fz o.op k' ρ w = some y → isCall o.op = false → (∀ sr, k' sr = goS o.dst st tr k (.loc sr)) → ∃ r, y = w r ∧ WO F (o :: l) p tr (Q r) := by
    intro k' hv hc hk
    obtain ⟨sr, pr, h1, G, h2⟩ := evS_sim hE hS (pe := p.env) hv
    rw [hk] at h2
    exact goS_loc hl h hw ⟨0, by rw [evX_loc hc, h.fz, h1]; rfl⟩ G h2
  generalize hop : o.op = op at hg
  cases op with
  | call m f args =>
    have hargs := opdsS_R hE args
    simp only [callS] at hg
    cases m with
    | pur =>
      dsimp only at hg
      cases hx : exVL st.sto (exBxS st.sto deep) (opdsS st.env args) with
      | none => rw [hx] at hg; cases hg
      | some vs =>
        rw [hx] at hg
        obtain ⟨q, h1, h2⟩ := exVL_R hS (exBxS_R hS deep) hargs hx
        obtain ⟨sr, pr, ⟨n, h3⟩, G, h4⟩ := conS_sim (f := f) (z := st.fz) hS h1 h2 (tkExL hS (tkBx_R hS deep) hargs hx) (fun c hc => hcx.con f c hc) hg
        exact goS_loc hl h hw ⟨n, by rw [hop, h.fz]; simp only [evX, h3]; rfl⟩ G h4
    | own =>
      dsimp only at hg
      cases hx : exVL st.sto (exBxS st.sto deep) (opdsS st.env args) with
      | none => rw [hx] at hg; cases hg
      | some vs =>
        rw [hx] at hg
        obtain ⟨q, h1, h2⟩ := exVL_R hS (exBxS_R hS deep) hargs hx
        obtain ⟨sr, pr, ⟨n, h3⟩, G, h4⟩ := conS_sim (f := f) (z := st.fz) hS h1 h2 (tkExL hS (tkBx_R hS deep) hargs hx) (fun c hc => hcx.con f c hc) hg
        exact goS_loc hl h hw ⟨n, by rw [hop, h.fz]; simp only [evX, h3]; rfl⟩ G h4
    | shr => exact shr f _ _ hargs (fun n => by rw [hop]; rfl) hg
    | fp =>
      dsimp only at hg
      cases hx : exVL st.sto (exBxS st.sto deep) (opdsS st.env args) with
      | none => rw [hx] at hg; cases hg
      | some vs0 =>
        rw [hx] at hg
        dsimp only at hg
        obtain ⟨hz, hg⟩ := bif_some hg
        cases h1 : renVL (dedup (tkVL (tkBx st.sto deep) (opdsS st.env args))) (opdsS st.env args) with
        | none => rw [h1] at hg; cases hg
        | some vs =>
          cases h2 : renS st.sto (dedup (tkVL (tkBx st.sto deep) (opdsS st.env args))) (dedup (tkVL (tkBx st.sto deep) (opdsS st.env args))) with
          | none => rw [h1, h2] at hg; cases hg
          | some s0 =>
            rw [h1, h2] at hg
            obtain ⟨sr, pr, ⟨n, h3⟩, G, h4⟩ := fpS_sim (f := f) (z := st.fz) hS hargs (by rw [tkExL hS (tkBx_R hS deep) hargs hx]) hz h1 h2 (fun c hc => hcx.fpc f c hc) hg
            exact goS_loc hl h hw ⟨n, by rw [hop, h.fz]; simp only [evX, h3]; rfl⟩ G h4
  | callv x args =>
    have hargs := opdsS_R hE args
    simp only [callS] at hg
    have hx := opdS_R hE x
    generalize opdS st.env x = v at hg hx
    cases v with
    | clo f a b =>
      dsimp only at hg
      obtain ⟨pa, pb, hx, ha, hb⟩ := hx
      have hany : ∀ {vs : List SV} {q : List PV}, RL st.sto vs q → (anyPtr vs = true → q.any isOwnPtr = true) := by
        intro vs
        induction vs with
        | nil => intro q _ h; cases h
        | cons v vs ih =>
          intro q hq hp
          obtain ⟨a, as, rfl, h1, h2⟩ := hq.cons_inv
          simp only [anyPtr, Bool.or_eq_true] at hp
          simp only [List.any_cons, Bool.or_eq_true]
          rcases hp with hp | hp
          · left
            cases v with
            | own _ _ => obtain ⟨_, _, rfl, _⟩ := h1; rfl
            | pre _ _ _ _ => obtain ⟨_, rfl, _⟩ := h1; rfl
            | part _ _ _ _ _ => obtain ⟨_, rfl, _⟩ := h1; rfl
            | pa _ _ _ _ _ => obtain ⟨rfl, _⟩ := h1; rfl
            | pb _ _ _ => obtain ⟨_, rfl, _⟩ := h1; rfl
            | bp _ _ _ => rw [show a = _ from h1]; rfl
            | mp _ => rw [show a = _ from h1]; rfl
            | _ => cases hp
          · right; exact ih h2 hp
      cases hp : anyPtr (opdsS st.env args ++ b) with
      | true =>
        rw [hp] at hg
        have := hany (hargs.append hb) hp
        exact shr f _ _ ((ha.append hargs).append hb) (fun n => by rw [hop]; simp only [evX, hx, this, if_true]) hg
      | false =>
        rw [hp] at hg
        simp only [cond_false] at hg
        cases hxx : exVL st.sto (exBxS st.sto deep) (a ++ opdsS st.env args ++ b) with
        | none => rw [hxx] at hg; cases hg
        | some vs =>
          rw [hxx] at hg
          -- no block among what goes over
          have hno : ∀ {vs u : List SV} {q : List PV}, RL st.sto vs q → anyPtr vs = false → exVL st.sto (exBxS st.sto deep) vs = some u → q.any isOwnPtr = false := by
            intro vs
            induction vs with
            | nil => intro u q hq _ _; rw [show q = [] from hq]; rfl
            | cons v vs ih =>
              intro u q hq hp hu
              obtain ⟨a, as, rfl, h1, h2⟩ := hq.cons_inv
              simp only [anyPtr, Bool.or_eq_false_iff] at hp
              simp only [exVL] at hu
              split at hu
              · rename_i y1 y2 e1 e2
                simp only [List.any_cons, ih h2 hp.2 e2, Bool.or_false]
                cases v with
                | agg _ | tup _ | rptr _ _ => obtain ⟨_, rfl, _⟩ := h1; rfl
                | clo _ _ _ => obtain ⟨_, _, rfl, _⟩ := h1; rfl
                | int _ _ | bool _ | str _ | nilf | sl _ _ | nil _ _ | undef | nul => rw [show a = _ from h1]; rfl
                | junk => cases e1
                | own _ _ | pre _ _ _ _ | part _ _ _ _ _ | pa _ _ _ _ _ | pb _ _ _ | bp _ _ _ | mp _ => cases hp.1
              · cases hu
          have hsplit : ∃ u2, exVL st.sto (exBxS st.sto deep) (opdsS st.env args ++ b) = some u2 := by
            have : ∀ (l : List SV) {m u : List SV}, exVL st.sto (exBxS st.sto deep) (l ++ m) = some u → ∃ u2, exVL st.sto (exBxS st.sto deep) m = some u2 := by
              intro l
              induction l with
              | nil => intro m u h; exact ⟨u, h⟩
              | cons x l ih =>
                intro m u h
                simp only [List.cons_append, exVL] at h
                split at h
                · rename_i e1 e2; exact ih e2
                · cases h
            rw [List.append_assoc] at hxx
            exact this a hxx
          obtain ⟨u2, hu2⟩ := hsplit
          have hno' := hno (hargs.append hb) hp hu2
          have hall := (ha.append hargs).append hb
          obtain ⟨q, h1, h2⟩ := exVL_R hS (exBxS_R hS deep) hall hxx
          obtain ⟨sr, pr, ⟨n, h3⟩, G, h4⟩ := conS_sim (f := f) (z := st.fz) hS h1 h2 (tkExL hS (tkBx_R hS deep) hall hxx) (fun c hc => hcx.con f c hc) hg
          exact goS_loc hl h hw ⟨n, by rw [hop, h.fz]; simp only [evX, hx, hno', Bool.false_eq_true, if_false, h3]; rfl⟩ G h4
    | _ => cases hg
  | _ => exact loc (k' := fun r => goS o.dst st tr k (.loc r)) (by rw [hop]; exact hg) (by rw [hop]; rfl) (fun _ => rfl)

theorem evOpsS_sound (hcx : CxOK F cx) (hinl : InlOK F inl) : ∀ (ops : List XOper) {st : SSt} {p : St} {tr : List Tr} {k : SSt → List Tr → Ans R'} {ρ : Type} {w : R' → ρ} {y : ρ} {Q : R' → St → List Tr → Prop},
    KOps F k Q → RSt st p → evOpsS cx inl ops st tr k ρ w = some y → ∃ r, y = w r ∧ WO F ops p tr (Q r)
  | [], st, p, tr, k, ρ, w, y, Q, hk, h, he => by
    obtain ⟨r, hr, hq⟩ := hk st p tr ρ w y h he
    exact ⟨r, hr, WO.nil hq⟩
  | o :: l, st, p, tr, k, ρ, w, y, Q, hk, h, he => by
    have hl : ∀ st p tr ρ (w : R' → ρ) y, RSt st p → evOpsS cx inl l st tr k ρ w = some y → ∃ r, y = w r ∧ WO F l p tr (Q r) := fun st p tr ρ w y h he => evOpsS_sound hcx hinl l hk h he
    have setR : ∀ {st : SSt} {c : Nat} {v : SV}, RSt st p → R st.sto v (lk c p.env) → RSt { st with env := setS c v st.env } p := fun h hv => ⟨h.env.setS hv, h.sto, h.fz, h.kn⟩
    have run' : ∀ {st : SSt}, RSt st p → wanted o.guard p.env = some true → (match o.op with
      | .pick (.t c) a b => match lkS c st.env with
        | .bool x => condA x (goS o.dst { st with env := setS c (.bool true) st.env } tr (evOpsS cx inl l · · k) (.loc { v := opdS st.env a }))
            (goS o.dst { st with env := setS c (.bool false) st.env } tr (evOpsS cx inl l · · k) (.loc { v := opdS st.env b }))
        | _ => failA
      | op => callS cx inl st.env st.sto st.fz op (goS o.dst st tr (evOpsS cx inl l · · k))) ρ w = some y → ∃ r, y = w r ∧ WO F (o :: l) p tr (Q r) := by
      intro st h hw he
      have plain : callS cx inl st.env st.sto st.fz o.op (goS o.dst st tr (evOpsS cx inl l · · k)) ρ w = some y → ∃ r, y = w r ∧ WO F (o :: l) p tr (Q r) := fun he => callS_sound hcx hinl hl h hw he
      generalize hop : o.op = op at he
      cases op with
      | pick c a b =>
        cases c with
        | c v => exact plain (by rw [hop]; exact he)
        | t c =>
          dsimp only at he
          generalize hv : lkS c st.env = v at he
          cases v with
          | bool x =>
            have hx : lk c p.env = .bool x := by have := h.env.lk c; rw [hv] at this; exact this
            rcases condA_some he with ⟨rfl, he⟩ | ⟨rfl, he⟩
            · have hR := setR h (c := c) (v := .bool true) hx
              exact goS_loc (o := o) hl hR hw ⟨0, by rw [hop]; simp only [evX, evOp, Opd.ev, hx]; rfl⟩ (Good.val hR.sto (opdS_R h.env a)) he
            · have hR := setR h (c := c) (v := .bool false) hx
              exact goS_loc (o := o) hl hR hw ⟨0, by rw [hop]; simp only [evX, evOp, Opd.ev, hx]; rfl⟩ (Good.val hR.sto (opdS_R h.env b)) he
          | _ => cases he
      | _ => exact plain (by rw [hop]; exact he)
    have skip' : ∀ {st : SSt}, RSt st p → wanted o.guard p.env = some false → evOpsS cx inl l { st with env := putD o.dst .nul st.env } (Tr.idle :: tr) k ρ w = some y → ∃ r, y = w r ∧ WO F (o :: l) p tr (Q r) := by
      intro st h hw he
      have hR : RSt { st with env := putD o.dst .nul st.env } { p with env := putEnv o.dst .nul p.env } := by
        refine ⟨?_, h.sto, h.fz, h.kn⟩
        cases o.dst with
        | none => exact h.env
        | some t => exact ⟨.nul, p.env, rfl, rfl, h.env⟩
      obtain ⟨r, hr, hwo⟩ := hl _ _ _ _ _ _ hR he
      exact ⟨r, hr, WO.skip hw hwo⟩
    simp only [evOpsS] at he
    cases hgd : o.guard with
    | none =>
      rw [hgd] at he
      exact run' h (by rw [hgd]; rfl) he
    | some g =>
      obtain ⟨c, want⟩ := g
      rw [hgd] at he
      dsimp only at he
      generalize hv : lkS c st.env = v at he
      cases v with
      | bool x =>
        have hx : lk c p.env = .bool x := by have := h.env.lk c; rw [hv] at this; exact this
        have hwx : ∀ b, x = b → wanted o.guard p.env = some (b == want) := fun b hb => by rw [hgd]; simp only [wanted, hx, hb]
        cases want with
        | true =>
          simp only [cond_true] at he
          rcases condA_some he with ⟨rfl, he⟩ | ⟨rfl, he⟩
          · exact run' (setR h (v := .bool true) hx) (hwx true rfl) he
          · exact skip' (setR h (v := .bool false) hx) (hwx false rfl) he
        | false =>
          simp only [cond_false] at he
          rcases condA_some he with ⟨rfl, he⟩ | ⟨rfl, he⟩
          · exact skip' (setR h (v := .bool true) hx) (hwx true rfl) he
          · exact run' (setR h (v := .bool false) hx) (hwx false rfl) he
      | nul =>
        have hx : lk c p.env = .nul := by have := h.env.lk c; rw [hv] at this; exact this
        exact skip' h (by rw [hgd]; simp only [wanted, hx]) he
      | _ => cases he

theorem keepK_some {e : SE} : ∀ {keep : List Nat} {k : SE → Ans R'} {ρ : Type} {w : R' → ρ} {y : ρ}, keepK e keep k ρ w = some y → k (keep.map fun s => (s, lkS s e)) ρ w = some y
  | [], k, ρ, w, y, h => h
  | s :: r, k, ρ, w, y, h => by
    simp only [keepK] at h
    rw [seqV_eq] at h
    have := keepK_some h
    exact this

theorem keep_R {s : List SB} {e : SE} {pe : Env} (h : REnv s e pe) : ∀ (keep : List Nat), REnv s (keep.map fun t => (t, lkS t e)) (keep.map fun t => (t, lk t pe))
  | [] => rfl
  | t :: r => ⟨_, _, rfl, h.lk t, keep_R h r⟩
end

mutual
theorem put_selfV : ∀ (v : SV) (q : List Atm), putV v (atsV v ++ q) = (v, q)
  | .junk, q | .undef, q | .nul, q | .nilf, q | .int _ _, q | .bool _, q | .str _, q | .sl _ _, q | .nil _ _, q | .own _ _, q | .pre _ _ _ _, q | .part _ _ _ _ _, q | .pa _ _ _ _ _, q | .pb _ _ _, q | .bp _ _ _, q | .mp _, q => rfl
  | .agg cs, q => by simp only [putV, atsV, put_selfL]
  | .tup cs, q => by simp only [putV, atsV, put_selfL]
  | .rptr cs o, q => by simp only [putV, atsV, put_selfL]
  | .clo f a b, q => by simp only [putV, atsV, List.append_assoc, put_selfL]
theorem put_selfL : ∀ (v : List SV) (q : List Atm), putL v (atsL v ++ q) = (v, q)
  | [], q => rfl
  | x :: xs, q => by simp only [putL, atsL, List.append_assoc, put_selfV, put_selfL]
end
theorem put_selfS : ∀ (v : List SB) (q : List Atm), putS v (atsS v ++ q) = (v, q)
  | [], q => rfl
  | x :: xs, q => by
    have : ∀ q, putB x (atsB x ++ q) = (x, q) := by
      intro q
      cases x <;> first | rfl | simp only [putB, atsB, put_selfL]
    simp only [putS, atsS, List.append_assoc, this, put_selfS]
theorem put_selfE : ∀ (v : SE) (q : List Atm), putE v (atsE v ++ q) = (v, q)
  | [], q => rfl
  | (t, x) :: xs, q => by simp only [putE, atsE, List.append_assoc, put_selfV, put_selfE]
theorem put_selfSt (st : SSt) : putSt st (atsSt st) = st := by
  have hs := put_selfS st.sto []
  rw [List.append_nil] at hs
  simp only [putSt, atsSt, put_selfE, hs]

/-! ### code -/

theorem evC_sound {cx : Ctx} {inl : Inl} (hcx : CxOK F cx) (hinl : InlOK F inl) : ∀ (c : XCode) (R' : Type) {st : SSt} {p : St} {k : XExit → SSt → Ans R'} {ρ : Type} {w : R' → ρ} {y : ρ} {Q : R' → XExit → St → Prop},
    (∀ e st p ρ (w : R' → ρ) y, RSt st p → k e st ρ w = some y → ∃ r, y = w r ∧ Q r e p) → RSt st p → evC' cx inl c R' st k ρ w = some y → ∃ r, y = w r ∧ WP F c p (Q r) := by
  intro c
  induction c with
  | skip =>
    intro R' st p k ρ w y Q hk h he
    obtain ⟨r, hr, hq⟩ := hk _ _ _ _ _ _ h he
    exact ⟨r, hr, WP.skip hq⟩
  | ret =>
    intro R' st p k ρ w y Q hk h he
    obtain ⟨r, hr, hq⟩ := hk _ _ _ _ _ _ h he
    exact ⟨r, hr, WP.ret hq⟩
  | exit id =>
    intro R' st p k ρ w y Q hk h he
    obtain ⟨r, hr, hq⟩ := hk _ _ _ _ _ _ h he
    exact ⟨r, hr, WP.exit hq⟩
  | region d ops keep =>
    intro R' st p k ρ w y Q hk h he
    simp only [evC'] at he
    have fin : ∀ st p ρ (w : R' → ρ) y, RSt st p → keepK st.env keep (fun e => k .normal { st with env := e }) ρ w = some y → ∃ r, y = w r ∧ Q r .normal (keepOnly keep p) := by
      intro st p ρ w y h he
      have := keepK_some he
      have hR : RSt { st with env := keep.map fun t => (t, lkS t st.env) } (keepOnly keep p) := ⟨keep_R h.env keep, h.sto, h.fz, h.kn⟩
      exact hk _ _ _ _ _ _ hR this
    cases d with
    | none =>
      obtain ⟨r, hr, hwo⟩ := evOpsS_sound hcx hinl ops (Q := fun r s _ => Q r .normal (keepOnly keep s)) (fun st p tr ρ w y h he => fin st p ρ w y h he) h he
      exact ⟨r, hr, WP.region hwo⟩
    | some bf =>
      obtain ⟨r, hr, hwo⟩ := evOpsS_sound hcx hinl ops (Q := fun r s t => orderOk 0 (t.reverse.zip bf) = true ∧ Q r .normal (keepOnly keep s)) (fun st p tr ρ w y h he => by
        dsimp only at he
        cases ho : orderOk 0 (tr.reverse.zip bf) with
        | false => rw [ho] at he; cases he
        | true =>
          rw [ho] at he
          obtain ⟨r, hr, hq⟩ := fin st p ρ w y h he
          exact ⟨r, hr, ho, hq⟩) h he
      exact ⟨r, hr, WP.regionD hwo⟩
  | seq a b iha ihb =>
    intro R' st p k ρ w y Q hk h he
    simp only [evC'] at he
    obtain ⟨r, hr, hwp⟩ := iha R' (Q := fun r => andThen (fun s => WP F b s (Q r)) (Q r)) (fun e st p ρ w y h he => by
      cases e with
      | normal => exact ihb R' hk h he
      | exit i => exact hk _ _ _ _ _ _ h he
      | ret => exact hk _ _ _ _ _ _ h he) h he
    exact ⟨r, hr, WP.seq hwp⟩
  | cond c a b iha ihb =>
    intro R' st p k ρ w y Q hk h he
    simp only [evC'] at he
    have hx := opdS_R h.env c
    generalize opdS st.env c = v at he hx
    cases v with
    | bool x =>
      rcases condA_some he with ⟨rfl, he⟩ | ⟨rfl, he⟩
      · obtain ⟨r, hr, hwp⟩ := iha R' hk h he
        exact ⟨r, hr, WP.condT hx hwp⟩
      · obtain ⟨r, hr, hwp⟩ := ihb R' hk h he
        exact ⟨r, hr, WP.condF hx hwp⟩
    | _ => cases he
  | block id b ih =>
    intro R' st p k ρ w y Q hk h he
    simp only [evC'] at he
    obtain ⟨r, hr, hwp⟩ := ih R' (Q := fun r => inBlock id (Q r)) (fun e st p ρ w y h he => by
      cases e with
      | normal => exact hk _ _ _ _ _ _ h he
      | ret => exact hk _ _ _ _ _ _ h he
      | exit j =>
        dsimp only at he
        cases hj : Nat.beq j id with
        | true =>
          rw [hj] at he
          obtain ⟨r, hr, hq⟩ := hk _ _ _ _ _ _ h he
          have hji := Nat.eq_of_beq_eq_true hj
          exact ⟨r, hr, by simpa [inBlock, hji] using hq⟩
        | false =>
          rw [hj] at he
          obtain ⟨r, hr, hq⟩ := hk _ _ _ _ _ _ h he
          have : j ≠ id := by intro e; subst e; simp at hj
          exact ⟨r, hr, by simpa [inBlock, this] using hq⟩) h he
    exact ⟨r, hr, WP.block hwp⟩
  | loop live b ih =>
    intro R' st p k ρ w y Q hk h he
    simp only [evC'] at he
    cases hn : normS cx.rk live st with
    | none => rw [hn] at he; cases he
    | some st1 =>
      rw [hn] at he
      dsimp only at he
      have ksK_eq : ∀ {β : Type 1} (l : List AK) (c : List AK → β), ksK l c = c l := by
        intro β l
        have rK_eq : ∀ {β : Type 1} (l : List PT) (c : List PT → β), rK l c = c l := by
          intro β l
          induction l with
          | nil => intro c; rfl
          | cons p r ih => intro c; cases p <;> simp only [rK, ptK, ih]
        induction l with
        | nil => intro c; rfl
        | cons a r ih => intro c; cases a <;> simp only [ksK, rK_eq, ih]
      rw [ksK_eq] at he
      generalize ksOf (atsSt st1) = ks at he
      cases hp : prodOf ks (atsSt st1) with
      | none => rw [hp] at he; cases he
      | some y0 =>
        rw [hp] at he
        dsimp only at he
        obtain ⟨p1, hp1, hR1⟩ := normS_R h hn
        have hlike : ∀ (st3 : SSt) (y' : prodT ks), likeSt st1 st3 = true → prodOf ks (atsSt st3) = some y' → putSt st1 (atsOf ks y') = st3 := fun st3 y' h1 h2 => by
          rw [prodOf_ats h2, put_atsSt h1]
        obtain ⟨n, hit⟩ := loopW_ok he
        have h0 : RSt (putSt st1 (atsOf ks y0)) p1 := by rw [prodOf_ats hp, put_selfSt]; exact hR1
        clear he hp hn h hR1
        induction n generalizing y0 p p1 with
        | zero => cases hit
        | succ n ihn =>
          have body : ∀ zr, evC' cx inl b (Step (prodT ks) ρ) (putSt st1 (atsOf ks y0)) (fun e st2 => match e with
            | .normal => match normS cx.rk live st2 with
              | some st3 => bif likeSt st1 st3 then (match prodOf ks (atsSt st3) with
                | some y' => leafA (.next y')
                | none => failA) else failA
              | none => failA
            | e => fun ρ' w' => k e st2 ρ' fun r => w' (.done (w r))) (Step (prodT ks) ρ) (fun z => z) = some zr →
            WP F b p1 (fun e s => match zr with
                | .next y' => e = .normal ∧ ∃ p3, norm live s = some p3 ∧ RSt (putSt st1 (atsOf ks y')) p3
                | .done x => e ≠ .normal ∧ ∃ r, x = w r ∧ Q r e s) := by
            intro zr hbody
            obtain ⟨zr', hzr, hwp⟩ := ih (Step (prodT ks) ρ) (Q := fun zr e s => match zr with
                | .next y' => e = .normal ∧ ∃ p3, norm live s = some p3 ∧ RSt (putSt st1 (atsOf ks y')) p3
                | .done x => e ≠ .normal ∧ ∃ r, x = w r ∧ Q r e s) (fun e st2 p2 ρ' w' y2 h2 he2 => by
              cases e with
              | normal =>
                dsimp only at he2
                cases hn3 : normS cx.rk live st2 with
                | none => rw [hn3] at he2; cases he2
                | some st3 =>
                  rw [hn3] at he2
                  obtain ⟨hlk, he2⟩ := bif_some he2
                  cases hp3 : prodOf ks (atsSt st3) with
                  | none => rw [hp3] at he2; cases he2
                  | some y3 =>
                    rw [hp3] at he2
                    injection he2 with he2
                    obtain ⟨p3, hp3', hR3⟩ := normS_R h2 hn3
                    exact ⟨.next y3, he2.symm, rfl, p3, hp3', by rw [hlike st3 y3 hlk hp3]; exact hR3⟩
              | exit i =>
                obtain ⟨r, hr, hq⟩ := hk _ _ _ _ _ _ h2 he2
                exact ⟨.done (w r), hr, (by intro e; cases e), r, rfl, hq⟩
              | ret =>
                obtain ⟨r, hr, hq⟩ := hk _ _ _ _ _ _ h2 he2
                exact ⟨.done (w r), hr, (by intro e; cases e), r, rfl, hq⟩) h0 hbody
            subst hzr
            exact hwp
          simp only [iterO] at hit
          split at hit
          · rename_i y' hbody
            obtain ⟨m, e, s, hrun, rfl, p3, hp3, hR3⟩ := body _ hbody
            obtain ⟨r, hr, hwp⟩ := ihn y' p3 hp3 hit hR3
            exact ⟨r, hr, WP.again hp1 ⟨m, .normal, s, hrun, hwp⟩⟩
          · rename_i x hbody
            injection hit with hit
            obtain ⟨m, e, s, hrun, hne, r, hr, hq⟩ := body _ hbody
            refine ⟨r, by rw [← hit]; exact hr, WP.again hp1 ⟨m, e, s, hrun, ?_⟩⟩
            cases e with
            | normal => exact absurd rfl hne
            | exit i => exact hq
            | ret => exact hq
          · cases hit

end
end Go.Vm

/- Contracts from the typed machine. -/
namespace Go.Vm
section
variable {F : Tab} {cx : Ctx} {inl : Inl}

theorem envOfS_R {s : List SB} : ∀ {l : List SV} {q : List PV} (i : Nat), RL s l q → REnv s (envOfS i l) (envOf i q)
  | [], q, i, h => by rw [show q = [] from h]; rfl
  | x :: xs, q, i, h => by
    obtain ⟨a, as, rfl, h1, h2⟩ := h.cons_inv
    exact ⟨a, envOf (i + 1) as, rfl, h1, envOfS_R (i + 1) h2⟩

theorem resOfS_R {st : SSt} {p : St} (h : RSt st p) {r : RV} {v : SV} (hr : resOfS st r = some v) : ∃ q, resOf p r = some q ∧ R st.sto v q := by
  cases r with
  | tmp t => injection hr with hr; subst hr; exact ⟨_, rfl, h.env.lk t⟩
  | cell t agg =>
    simp only [resOfS] at hr
    have hlk := h.env.lk t
    split at hr
    · rename_i u n off hv
      rw [hv] at hlk
      rw [nth_eq] at hr
      split at hr
      · rename_i cs hst
        obtain ⟨q, h1, h2⟩ := h.sto.box hst
        obtain ⟨x, h3, h4⟩ := partS_R h2 hr
        refine ⟨x, ?_, h4⟩
        simp only [resOf, show lk t p.env = _ from hlk, loadE, h1, Nat.beq_refl, if_true, h3]
        rfl
      · cases hr
    · rename_i cs off hv
      rw [hv] at hlk
      obtain ⟨q, h1, h2⟩ := hlk
      obtain ⟨x, h3, h4⟩ := partS_R h2 hr
      refine ⟨x, ?_, h4⟩
      simp only [resOf, h1, loadE, h3]
      rfl
    · cases hr

theorem resAllS_R {st : SSt} {p : St} (h : RSt st p) : ∀ {l : List RV} {vs : List SV}, resAllS st l = some vs → ∃ q, resAll p l = some q ∧ RL st.sto vs q
  | [], vs, hr => by injection hr with hr; subst hr; exact ⟨[], rfl, rfl⟩
  | r :: l, vs, hr => by
    simp only [resAllS] at hr
    split at hr
    · rename_i v vs' h1 h2
      injection hr with hr; subst hr
      obtain ⟨q, h3, h4⟩ := resOfS_R h h1
      obtain ⟨qs, h5, h6⟩ := resAllS_R h h2
      exact ⟨q :: qs, by simp only [resAll, h3, h5], RL.cons h4 h6⟩
    · cases hr

theorem results1S_R {s : List SB} {vs : List SV} {q : List PV} (h : RL s vs q) : R s (results1S vs) (results1 q) := by
  match vs, q, h with
  | [], q, h => rw [show q = [] from h]; exact ⟨[], rfl, rfl⟩
  | [v], q, h =>
    obtain ⟨a, as, rfl, h1, h2⟩ := h.cons_inv
    rw [show as = [] from h2]; exact h1
  | v :: u :: r, q, h =>
    have hall := h
    obtain ⟨a, as, rfl, h1, h2⟩ := h.cons_inv
    obtain ⟨b, bs, rfl, h3, h4⟩ := h2.cons_inv
    exact ⟨_, rfl, hall⟩

theorem evFun_sound (hcx : CxOK F cx) (hinl : InlOK F inl) {f : FuncId} {x : XFunc} (hf : F f = some (.code x)) {R' : Type} {args : List SV} {s : List SB} {z : List Nat} {k : SV → List SB → List Nat → Ans R'} {ρ : Type} {w : R' → ρ} {y : ρ} {pa : List PV} {ps : Sto}
    {Q : R' → PV → Sto → List Nat → Prop} (ha : RL s args pa) (hS : RSto s ps) (he : evFun cx inl x R' args s z k ρ w = some y)
    (hk : ∀ v s' z' p ps' ρ' (w' : R' → ρ') y', R s' v p → RSto s' ps' → k v s' z' ρ' w' = some y' → ∃ r, y' = w' r ∧ Q r p ps' z') : ∃ r, y = w r ∧ Does F f pa ps z (fun p ps' z' => Q r p ps' z') := by
  unfold evFun at he
  obtain ⟨hn, he⟩ := bif_some he
  have fin : ∀ st p ρ' (w' : R' → ρ') y', RSt st p → (match resAllS st x.res with
      | some vs => k (results1S vs) st.sto st.fz
      | none => failA) ρ' w' = some y' → ∃ r, y' = w' r ∧ ∃ vs, resAll p x.res = some vs ∧ Q r (results1 vs) p.sto p.fz := by
    intro st p ρ' w' y' h he
    cases hr : resAllS st x.res with
    | none => rw [hr] at he; cases he
    | some vs =>
      rw [hr] at he
      obtain ⟨q, h1, h2⟩ := resAllS_R h hr
      obtain ⟨r, h3, h4⟩ := hk _ _ _ _ _ _ _ _ (results1S_R h2) h.sto he
      exact ⟨r, h3, q, h1, by rw [h.fz]; exact h4⟩
  obtain ⟨r, hr, hwp⟩ := evC_sound hcx hinl x.code R' (Q := fun r => fnPost x fun p ps' z' => Q r p ps' z') (p := { env := envOf 0 pa, sto := ps, fz := z, kn := ps.length }) (fun e st p ρ' w' y' h he => by
    cases e with
    | normal => exact fin st p ρ' w' y' h he
    | ret => exact fin st p ρ' w' y' h he
    | exit i => cases he) ⟨envOfS_R 0 ha, hS, rfl, hS.len⟩ he
  exact ⟨r, hr, Does.of hf (by rw [ha.length]; exact hn) hwp⟩

theorem inlN_ok (hcx : CxOK F cx) : ∀ n, InlOK F (inlN cx n)
  | 0 => fun f args s z R' k ρ w y pa ps Q _ _ h _ => by cases h
  | n + 1 => fun f args s z R' k ρ w y pa ps Q ha hS h hk => by
    simp only [inlN] at h
    cases hx : cx.code f with
    | none => rw [hx] at h; cases h
    | some x =>
      rw [hx] at h
      exact evFun_sound hcx (inlN_ok hcx n) (hcx.code f x hx) ha hS h hk

def owOK : Kd → Bool → Bool
  | .own, b => b
  | _, b => !b

/-- What a function's end is, without blocks. -/
def LeafIs (kd : Kd) {β : Type} (res : Arg β) (b : β) (p : PV) (ps : Sto) (z : List Nat) : Prop :=
  match kd with
  | .pure => p.noref = true ∧ pvS (res.enc b) = some p
  | .frz => p.noref = false ∧ ∃ q, imF ps p = some q ∧ pvS (res.enc b) = some q
  | .own => ∀ nx, ∃ p0 p' q seen, imO ps z nx [] p = some (p', q, seen) ∧ pvS (res.enc b) = some p0 ∧ ownP nx p0 = some (p', q)

mutual
theorem pure_pvS {s : List SB} : ∀ {v : SV} {p : PV}, R s v p → norefS v = true → pvS v = some p
  | .int _ _, p, h, _ | .bool _, p, h, _ | .str _, p, h, _ => by rw [show p = _ from h]; rfl
  | .agg cs, p, h, hn => by obtain ⟨q, rfl, h⟩ := h; simp only [pvS, pure_pvL h hn]
  | .tup cs, p, h, hn => by obtain ⟨q, rfl, h⟩ := h; simp only [pvS, pure_pvL h hn]
  | .junk, _, _, h | .undef, _, _, h | .nul, _, _, h | .nilf, _, _, h | .sl _ _, _, _, h | .nil _ _, _, _, h | .own _ _, _, _, h | .pre _ _ _ _, _, _, h | .part _ _ _ _ _, _, _, h | .pa _ _ _ _ _, _, _, h | .pb _ _ _, _, _, h | .bp _ _ _, _, _, h | .rptr _ _, _, _, h | .clo _ _ _, _, _, h | .mp _, _, _, h => by cases h
theorem pure_pvL {s : List SB} : ∀ {v : List SV} {p : List PV}, RL s v p → norefSL v = true → pvL v = some p
  | [], p, h, _ => by rw [show p = _ from h]; rfl
  | x :: xs, p, h, hn => by
    obtain ⟨a, as, rfl, h1, h2⟩ := h.cons_inv
    simp only [norefSL, Bool.and_eq_true] at hn
    exact pvL_cons.2 ⟨_, _, rfl, pure_pvS h1 hn.1, pure_pvL h2 hn.2⟩
end

theorem leafS_some {kd : Kd} {β : Type} {res : Arg β} {v : SV} {s : List SB} {z : List Nat} {p : PV} {ps : Sto} {ρ : Type} {w : β → ρ} {y : ρ} (hv : R s v p) (hS : RSto s ps) (h : leafS kd res v s z ρ w = some y) :
    ∃ b, y = w b ∧ LeafIs kd res b p ps z := by
  unfold leafS at h
  cases kd with
  | pure =>
    dsimp only at h
    obtain ⟨h1, h2⟩ := bif_some h
    obtain ⟨b, h3, h4⟩ := ansO_some h2
    injection h4 with h4
    exact ⟨b, h4.symm, norefS_R hv h1, res.law h3 (pure_pvS hv h1)⟩
  | frz =>
    dsimp only at h
    obtain ⟨h1, h2⟩ := nbif_some h
    obtain ⟨u, h3, h4⟩ := ansO_some h2
    obtain ⟨b, h5, h6⟩ := ansO_some h4
    injection h6 with h6
    obtain ⟨q, h7, h8⟩ := imV_R hS hv h3
    exact ⟨b, h6.symm, yesrefS_R hv h1 h3, q, h7, res.law h5 h8⟩
  | own =>
    dsimp only at h
    obtain ⟨u, h3, h4⟩ := ansO_some h
    obtain ⟨b, h5, h6⟩ := ansO_some h4
    injection h6 with h6
    refine ⟨b, h6.symm, fun nx => ?_⟩
    obtain ⟨p0, p', q, h7, h8, h9⟩ := imOV_R hS (v' := u.1) (seen' := u.2) nx hv h3
    exact ⟨p0, p', q, u.2, h9, res.law h5 h7, h8⟩

theorem RSto.nil : RSto [] [] := ⟨rfl, fun t b h => by simp at h⟩

/-- A function's contract, from what the typed machine makes of it. -/
theorem ConOK.of {f : FuncId} {x : XFunc} {α β : Type} {args : Args α} {res : Arg β} {kd : Kd} {fn : α → Option β} {ow : Bool} (hf : F f = some (.code x)) (ho : owOK kd ow = true) (hcx : CxOK F cx)
    (h : ∀ a, evTop cx x args res kd a = fn a) : ConOK F f ⟨args, res, fn, kd, ow⟩ := by
  intro a b as pa sto fz hb hpa hex
  have hb : fn a = some b := hb
  rw [← h a] at hb
  obtain ⟨r, hr, n, v, s, z, hrun, hl⟩ := evFun_sound hcx (inlN_ok hcx 8) hf (Q := fun r p ps z => LeafIs kd res r p ps z) (pvL_R hpa) RSto.nil hb (fun v s' z' p ps' ρ' w' y' hv hS hk => leafS_some hv hS hk)
  have hr' : b = r := hr
  subst hr'
  cases kd with
  | pure =>
    obtain ⟨h1, h2⟩ := hl
    have how : ow = false := by simpa [owOK] using ho
    subst how
    refine ⟨n, { v := v, rd := toksL (toksBx sto deep) as }, ?_, v, h2, rfl⟩
    simp only [callPure, hex, hf, hrun, Bool.false_eq_true, if_false, h1, if_true]
  | frz =>
    obtain ⟨h1, q, h2, h3⟩ := hl
    have how : ow = false := by simpa [owOK] using ho
    subst how
    refine ⟨n, { v := q, rd := toksL (toksBx sto deep) as, fr := toksL (toksBx sto deep) as }, ?_, q, h3, rfl⟩
    simp only [callPure, hex, hf, hrun, Bool.false_eq_true, if_false, h1, h2]
  | own =>
    have how : ow = true := ho
    subst how
    obtain ⟨p0, p', q, seen, h1, h2, h3⟩ := hl sto.length
    refine ⟨n, { v := p', news := q, rd := toksL (toksBx sto deep) as }, ?_, p0, p', q, h2, h3, rfl⟩
    simp only [callPure, hex, hf, hrun, if_true, h1]

/-! ### functions that work on blocks -/

theorem putB_kind : ∀ (b : SB) (q : List Atm), Firm b b → True := fun _ _ _ => trivial
theorem putS_len : ∀ (s : List SB) (q : List Atm), (putS s q).1.length = s.length
  | [], q => rfl
  | b :: r, q => by simp only [putS, List.length_cons, putS_len r]

mutual
theorem R.take {s : List SB} {k : Nat} : ∀ {v : SV} {p : PV}, R s v p → (∀ t ∈ tkV noBx v, t < k) → R (s.take k) v p
  | .junk, _, _, _ => trivial
  | .undef, _, h, _ | .nul, _, h, _ | .nilf, _, h, _ | .int _ _, _, h, _ | .bool _, _, h, _ | .str _, _, h, _ | .sl _ _, _, h, _ | .nil _ _, _, h, _ | .bp _ _ _, _, h, _ | .mp _, _, h, _ => h
  | .agg cs, _, h, ht => by obtain ⟨q, rfl, h⟩ := h; exact ⟨q, rfl, RL.takeS h ht⟩
  | .tup cs, _, h, ht => by obtain ⟨q, rfl, h⟩ := h; exact ⟨q, rfl, RL.takeS h ht⟩
  | .rptr cs o, _, h, ht => by obtain ⟨q, rfl, h⟩ := h; exact ⟨q, rfl, RL.takeS h ht⟩
  | .clo f a b, _, h, ht => by
    obtain ⟨pa, pb, rfl, h1, h2⟩ := h
    exact ⟨pa, pb, rfl, RL.takeS h1 (fun t h => ht t (List.mem_append_left _ h)), RL.takeS h2 (fun t h => ht t (List.mem_append_right _ h))⟩
  | .own t ex, _, h, ht => by
    obtain ⟨e, n, rfl, hat⟩ := h
    have hk := ht t (List.mem_singleton.2 rfl)
    refine ⟨e, n, rfl, ?_⟩
    rcases hat with ⟨r, l, h1, h2, h3⟩ | h1
    · exact .inl ⟨r, l, by rw [List.getElem?_take_of_lt hk]; exact h1, h2, h3⟩
    · exact .inr (by rw [List.getElem?_take_of_lt hk]; exact h1)
  | .pre t a b c, _, h, ht => by
    obtain ⟨e, rfl, hat⟩ := h
    have hk := ht t (List.mem_singleton.2 rfl)
    refine ⟨e, rfl, ?_⟩
    rcases hat with ⟨r, l, h1, h2⟩ | h1
    · exact .inl ⟨r, l, by rw [List.getElem?_take_of_lt hk]; exact h1, h2⟩
    · exact .inr (by rw [List.getElem?_take_of_lt hk]; exact h1)
  | .part t o a b c, _, h, ht => by
    obtain ⟨e, rfl, hat⟩ := h
    have hk := ht t (List.mem_singleton.2 rfl)
    refine ⟨e, rfl, ?_⟩
    rcases hat with ⟨r, l, h1, h2⟩ | h1
    · exact .inl ⟨r, l, by rw [List.getElem?_take_of_lt hk]; exact h1, h2⟩
    · exact .inr (by rw [List.getElem?_take_of_lt hk]; exact h1)
  | .pa t r i a o, _, h, ht => by
    obtain ⟨rfl, hat⟩ := h
    have hk := ht t (List.mem_cons_self ..)
    refine ⟨rfl, ?_⟩
    rcases hat with ⟨l, h1, h2⟩ | h1
    · exact .inl ⟨l, by rw [List.getElem?_take_of_lt hk]; exact h1, h2⟩
    · exact .inr (by rw [List.getElem?_take_of_lt hk]; exact h1)
  | .pb t i o, _, h, ht => by
    obtain ⟨e, rfl, hat⟩ := h
    have hk := ht t (List.mem_cons_self ..)
    refine ⟨e, rfl, ?_⟩
    rcases hat with ⟨r, l, h1, h2⟩ | h1
    · exact .inl ⟨r, l, by rw [List.getElem?_take_of_lt hk]; exact h1, h2⟩
    · exact .inr (by rw [List.getElem?_take_of_lt hk]; exact h1)
theorem RL.takeS {s : List SB} {k : Nat} : ∀ {v : List SV} {p : List PV}, RL s v p → (∀ t ∈ tkVL noBx v, t < k) → RL (s.take k) v p
  | [], _, h, _ => h
  | x :: xs, _, h, ht => by
    obtain ⟨a, as, rfl, h1, h2⟩ := h.cons_inv
    exact RL.cons (R.take h1 (fun t h => ht t (List.mem_append_left _ h))) (RL.takeS h2 (fun t h => ht t (List.mem_append_right _ h)))
end

theorem firmS_some {R' ρ : Type} {w : R' → ρ} {y : ρ} : ∀ {s s' : List SB} {k : Ans R'}, firmS s s' k ρ w = some y → k ρ w = some y ∧ s'.length = s.length ∧ ∀ (t : Nat) (x z : SB), s[t]? = some x → s'[t]? = some z → Firm x z
  | [], [], k, h => ⟨h, rfl, fun t x z h => by simp at h⟩
  | [], _ :: _, k, h => by cases h
  | _ :: _, [], k, h => by cases h
  | x :: xs, y' :: ys, k, h => by
    have step : ∀ (_ : firmS xs ys k ρ w = some y) (_ : Firm x y'), k ρ w = some y ∧ (y' :: ys).length = (x :: xs).length ∧ ∀ (t : Nat) (a b : SB), (x :: xs)[t]? = some a → (y' :: ys)[t]? = some b → Firm a b := by
      intro h hx
      obtain ⟨h1, h2, h3⟩ := firmS_some h
      refine ⟨h1, by simpa using h2, fun t a b ha hb => ?_⟩
      cases t with
      | zero => simp at ha hb; subst ha hb; exact hx
      | succ t => exact h3 t a b (by simpa using ha) (by simpa using hb)
    cases x with
    | arr r l =>
      cases y' with
      | arr q m =>
        obtain ⟨hr, h2⟩ := bif_some (a := condA (m.length == l.length) (firmS xs ys k) failA) h
        obtain ⟨hl, h3⟩ := condF_some h2
        exact step h3 ⟨rSame_eq hr, by simpa using hl⟩
      | _ => cases h
    | dead => cases y' with
      | dead => exact step h trivial
      | _ => cases h
    | box cs => cases y' with
      | box _ => exact step h trivial
      | _ => cases h
    | set l => cases y' with
      | set _ => exact step h trivial
      | _ => cases h

theorem sureBs_get : ∀ {s : List SB}, sureBs s = true → ∀ (t : Nat) (b : SB), s[t]? = some b → blkSure b = true
  | [], _, t, b, h => by simp at h
  | x :: xs, hs, 0, b, h => by simp only [sureBs, Bool.and_eq_true] at hs; simp at h; subst h; exact hs.1
  | x :: xs, hs, t + 1, b, h => by simp only [sureBs, Bool.and_eq_true] at hs; exact sureBs_get hs.2 t b (by simpa using h)

theorem FpOK.of {f : FuncId} {x : XFunc} {wd : Bool} {ka ko : List AK} {ta : List SV} {tb to : List SB} {tv : SV} {fn : prodT ka → Option (prodT ko)} (hf : F f = some (.code x)) (hcx : CxOK F cx)
    (h : ∀ a, evFp wd cx x ka ta tb ko tv to a = fn a) : FpOK F f ⟨ka, ta, tb, ko, tv, to, fn⟩ := by
  intro a b pa ps hb ha hS
  rw [show (⟨ka, ta, tb, ko, tv, to, fn⟩ : FpCon).fn a = fn a from rfl, ← h a] at hb
  have hlen : (FpCon.sa ⟨ka, ta, tb, ko, tv, to, fn⟩ a).length = tb.length := putS_len _ _
  obtain ⟨r, hr, n, v, s, z, hrun, hz, hq⟩ := evFun_sound hcx (inlN_ok hcx 8) hf (Q := fun (r : prodT ko) p ps' z' => z' = [] ∧ keepsOut tb.length p ps' = true ∧
      R (FpCon.sb ⟨ka, ta, tb, ko, tv, to, fn⟩ r) (FpCon.vb ⟨ka, ta, tb, ko, tv, to, fn⟩ r) p ∧ RSto (FpCon.sb ⟨ka, ta, tb, ko, tv, to, fn⟩ r) (ps'.take tb.length) ∧
      (FpCon.sb ⟨ka, ta, tb, ko, tv, to, fn⟩ r).length = (FpCon.sa ⟨ka, ta, tb, ko, tv, to, fn⟩ a).length ∧
      ∀ (t : Nat) (x y : SB), (FpCon.sa ⟨ka, ta, tb, ko, tv, to, fn⟩ a)[t]? = some x → (FpCon.sb ⟨ka, ta, tb, ko, tv, to, fn⟩ r)[t]? = some y → Firm x y) ha hS hb (fun v s' z' p ps' ρ' w' y' hv hS' hk => by
    cases z' with
    | cons _ _ => cases hk
    | nil =>
      dsimp only at hk
      obtain ⟨hc, hk⟩ := bif_some hk
      simp only [Bool.and_eq_true] at hc
      obtain ⟨⟨⟨⟨c1, c2⟩, c3⟩, c4⟩, c5⟩ := hc
      obtain ⟨hk, f1, f2⟩ := firmS_some hk
      obtain ⟨r, hr, hk⟩ := ansO_some hk
      injection hk with hk
      have hu : R s' (bif wd then wideV s' v else v) p := by
        cases wd with
        | true => exact wideV_R hv
        | false => exact hv
      generalize (bif wd then wideV s' v else v) = u at c1 c3 c4 hr hu
      have hats := prodOf_ats hr
      have hvb : FpCon.vb ⟨ka, ta, tb, ko, tv, to, fn⟩ r = u := by
        show (putV tv (atsOf ko r)).1 = u
        rw [hats, put_ats _ c1]
      have hsb : FpCon.sb ⟨ka, ta, tb, ko, tv, to, fn⟩ r = s'.take tb.length := by
        show (putS to (putV tv (atsOf ko r)).2).1 = _
        rw [hats, put_ats _ c1]
        have := put_atsS [] c2
        rw [List.append_nil] at this
        rw [this]
      have hle : tb.length ≤ s'.length := by
        have := f1
        rw [List.length_take] at this
        have h2 : (FpCon.sa ⟨ka, ta, tb, ko, tv, to, fn⟩ a).length = tb.length := hlen
        have h3 : min tb.length s'.length = tb.length := by rw [this]; exact h2
        omega
      unfold keepS at c3
      rw [List.all_eq_true] at c3
      have hkv : ∀ t ∈ tkV noBx u, t < tb.length := fun t ht => by simpa using c3 t (List.mem_append_left _ ht)
      have hkb : ∀ b ∈ s'.take tb.length, ∀ t ∈ blkTkS b, t < tb.length := fun b hb t ht => by simpa using c3 t (List.mem_append_right _ (List.mem_flatMap.2 ⟨b, hb, ht⟩))
      have hsto : RSto (s'.take tb.length) (ps'.take tb.length) := ⟨by simp [hS'.len], fun t x hx => by
        have hlt : t < tb.length := by
          have := (List.getElem?_eq_some_iff.1 hx).1
          rw [List.length_take] at this; omega
        have hx' := hx
        rw [List.getElem?_take_of_lt hlt] at hx'
        obtain ⟨q, q1, q2⟩ := hS'.at_ t x hx'
        refine ⟨q, by rw [List.getElem?_take_of_lt hlt]; exact q1, ?_⟩
        cases x with
        | box cs =>
          obtain ⟨pc, rfl, hpc⟩ := q2
          exact ⟨pc, rfl, RL.takeS hpc (hkb _ (List.mem_of_getElem? hx))⟩
        | _ => exact q2⟩
      refine ⟨r, hk.symm, rfl, ?_, by rw [hvb, hsb]; exact R.take hu hkv, by rw [hsb]; exact hsto, by rw [hsb]; exact f1, by rw [hsb]; exact f2⟩
      -- nothing leads to the callee's blocks
      unfold keepsOut
      rw [List.all_eq_true]
      intro t ht
      rw [List.mem_append] at ht
      rcases ht with ht | ht
      · rw [← tkV_R (bx := noBx) (fun _ => rfl) hu c4] at ht
        simpa using hkv t ht
      · rw [List.mem_flatMap] at ht
        obtain ⟨q, hq, ht⟩ := ht
        obtain ⟨j, hj, he⟩ := List.getElem_of_mem hq
        have hjl : j < (s'.take tb.length).length := by rw [← hsto.len]; exact hj
        obtain ⟨x, hx⟩ : ∃ x, (s'.take tb.length)[j]? = some x := ⟨_, List.getElem?_eq_getElem hjl⟩
        obtain ⟨q', q1, q2⟩ := hsto.at_ j x hx
        rw [List.getElem?_eq_getElem hj, he] at q1
        injection q1 with q1; subst q1
        rw [← blkTk_R q2 (sureBs_get c5 j x hx)] at ht
        simpa using hkb x (List.mem_of_getElem? hx) t ht)
  have hr' : b = r := hr
  subst hr'
  subst hz
  refine ⟨n, v, s, hrun, ?_⟩
  rw [hlen]
  obtain ⟨h1, h2, h3, h4, h5⟩ := hq
  exact ⟨h1, h2, h3, by rw [h4, hlen], h5⟩

/-! ### functions that are known without their code -/

theorem clone_call {f : FuncId} {r : List PT} (hf : F f = some (.prim false (pClone r.length))) (l : List (RT r)) (hl : l.length ≤ 1048576) {as : List PV} {sto : Sto} {fz : List Nat} (hex : exL sto (exBx sto deep) as = some [.sl r.length false (l.map (RT.pv r))]) :
    ∃ n x, callPure F (run F n) false f as sto fz = some x ∧ ResIs .own sto.length (toksL (toksBx sto deep) as) (.sl r l) x := by
  refine ⟨0, { v := .own sto.length r.length 0 l.length l.length false, news := [.arr r.length (l.map (RT.pv r))], rd := toksL (toksBx sto deep) as }, ?_, .sl r.length false (l.map (RT.pv r)), .own sto.length r.length 0 l.length l.length false, [.arr r.length (l.map (RT.pv r))], rfl, by simp only [ownP, List.length_map], rfl⟩
  simp only [callPure, hex, hf]
  cases l with
  | nil => rfl
  | cons a l =>
    have h2 : Nat.ble ((l.map (RT.pv r)).length + 1) most = true := by simp [most] at hl ⊢; omega
    simp only [List.map_cons, pClone, Nat.beq_refl, h2, Bool.and_self, if_true, imO]
    simp [has]

theorem ConOK.clone {f : FuncId} {n : Nat} {r : List PT} (hf : F f = some (.prim false (pClone n))) (hn : n = r.length) : ConOK F f (Con.clone r) := by
  intro (a : List (RT r)) (b : List (RT r)) as pa sto fz hb hpa hex
  subst hn
  have hb : cloneO a = some b := hb
  obtain ⟨rfl, hl⟩ := cloneO_inv hb
  have hpa' : pa = [.sl r.length false (b.map (RT.pv r))] := by
    have : some [PV.sl r.length false (b.map (RT.pv r))] = some pa := hpa
    exact (Option.some.inj this).symm
  subst hpa'
  exact clone_call hf b hl hex

theorem ConOK.add64 {f : FuncId} (hf : F f = some (.prim false pAdd64)) : ConOK F f Con.add64 := by
  intro a b as pa sto fz hb hpa hex
  obtain ⟨x, y, c⟩ := a
  have hb' : add64O x y c = some b := hb
  unfold add64O at hb'
  cases hc : (decide (0 ≤ x) && decide (0 ≤ y) && decide (0 ≤ c) && decide (c ≤ 1)) with
  | false => rw [hc] at hb'; cases hb'
  | true =>
    rw [hc] at hb'
    injection hb' with hb'; subst hb'
    simp only [Bool.and_eq_true, decide_eq_true_eq] at hc
    obtain ⟨⟨⟨h1, h2⟩, h3⟩, h4⟩ := hc
    obtain ⟨x, rfl⟩ := Int.eq_ofNat_of_zero_le h1
    obtain ⟨y, rfl⟩ := Int.eq_ofNat_of_zero_le h2
    obtain ⟨c, rfl⟩ := Int.eq_ofNat_of_zero_le h3
    have hpa' : pa = [.int .u64 (.ofNat x), .int .u64 (.ofNat y), .int .u64 (.ofNat c)] := by
      have : some [PV.int .u64 (x : Int), .int .u64 (y : Int), .int .u64 (c : Int)] = some pa := hpa
      exact (Option.some.inj this).symm
    subst hpa'
    have hcb : Nat.ble c 1 = true := by simp; omega
    refine ⟨0, { v := .tup [.int .u64 (.ofNat ((x + y + c) % 18446744073709551616)), .int .u64 (.ofNat ((x + y + c) / 18446744073709551616))], rd := toksL (toksBx sto deep) as }, ?_, _, rfl, rfl⟩
    show callPure F (run F 0) false f as sto fz = _
    simp only [callPure, hex, hf, pAdd64, hcb, if_true]
    rfl

theorem ConOK.sub64 {f : FuncId} (hf : F f = some (.prim false pSub64)) : ConOK F f Con.sub64 := by
  intro a b as pa sto fz hb hpa hex
  obtain ⟨x, y, c⟩ := a
  have hb' : sub64O x y c = some b := hb
  unfold sub64O at hb'
  cases hc : (decide (0 ≤ x) && decide (0 ≤ y) && decide (y < 18446744073709551616) && decide (0 ≤ c) && decide (c ≤ 1)) with
  | false => rw [hc] at hb'; cases hb'
  | true =>
    rw [hc] at hb'
    injection hb' with hb'; subst hb'
    simp only [Bool.and_eq_true, decide_eq_true_eq] at hc
    obtain ⟨⟨⟨⟨h1, h2⟩, h5⟩, h3⟩, h4⟩ := hc
    obtain ⟨x, rfl⟩ := Int.eq_ofNat_of_zero_le h1
    obtain ⟨y, rfl⟩ := Int.eq_ofNat_of_zero_le h2
    obtain ⟨c, rfl⟩ := Int.eq_ofNat_of_zero_le h3
    have hpa' : pa = [.int .u64 (.ofNat x), .int .u64 (.ofNat y), .int .u64 (.ofNat c)] := by
      have : some [PV.int .u64 (x : Int), .int .u64 (y : Int), .int .u64 (c : Int)] = some pa := hpa
      exact (Option.some.inj this).symm
    subst hpa'
    have hcb : (Nat.ble c 1 && Nat.ble y 18446744073709551615) = true := by simp; omega
    have e1 : Int.ofNat ((x + 18446744073709551616 - y - c) % 18446744073709551616) = ((x : Int) - y - c) % 18446744073709551616 := by
      simp only [Int.ofNat_eq_natCast]; omega
    have e2 : (bif Nat.blt x (y + c) then (1 : Int) else 0) = bif decide ((x : Int) < y + c) then 1 else 0 := by
      by_cases hlt : x < y + c
      · have h1 : Nat.blt x (y + c) = true := by simpa using hlt
        have h2 : decide ((x : Int) < y + c) = true := by simp; omega
        rw [h1, h2]
      · have h1 : Nat.blt x (y + c) = false := by
          cases hq : Nat.blt x (y + c) with
          | false => rfl
          | true => exact absurd (by simpa using hq) hlt
        have h2 : decide ((x : Int) < y + c) = false := by simp; omega
        rw [h1, h2]
    refine ⟨0, { v := .tup [.int .u64 (((x : Int) - y - c) % 18446744073709551616), .int .u64 (bif decide ((x : Int) < y + c) then 1 else 0)], rd := toksL (toksBx sto deep) as }, ?_, _, rfl, rfl⟩
    show callPure F (run F 0) false f as sto fz = _
    simp only [callPure, hex, hf, pSub64, hcb, if_true, e1, e2]
    rfl

/-- A function without arguments that gives true. -/
theorem ConOK.run0 {f : FuncId} {x : XFunc} {fn : Unit → Option Bool} (h : ConOK F f ⟨Args.nil, Arg.bool, fn, .pure, false⟩) (hf : F f = some (.code x)) (hb : fn () = some true) : ∃ n s z, run F n (.func f [] [] []) = some (.func (.bool true) s z) := by
  obtain ⟨n, r, h1, p, h2, rfl⟩ := h () true [] [] [] [] hb rfl rfl
  have hp : p = .bool true := (Option.some.inj h2).symm
  subst hp
  refine ⟨n, ?_⟩
  simp only [callPure, exL, hf] at h1
  split at h1
  · rename_i v s z hr
    simp only [Bool.false_eq_true, if_false] at h1
    split at h1
    · injection h1 with h1
      injection h1 with h1
      subst h1
      exact ⟨s, z, hr⟩
    · rename_i hn
      split at h1
      · rename_i v' hv
        injection h1 with h1
        injection h1 with h1
        subst h1
        exfalso
        cases v with
        | bool b => exact hn rfl
        | int _ _ | str _ | sl _ _ _ => injection hv with hv; cases hv
        | agg cs => simp only [imF, Option.map_eq_some_iff] at hv; obtain ⟨_, _, hv⟩ := hv; cases hv
        | tup cs => simp only [imF, Option.map_eq_some_iff] at hv; obtain ⟨_, _, hv⟩ := hv; cases hv
        | own t e off len cap ex => simp only [imF] at hv; split at hv <;> first | (injection hv with hv; cases hv) | cases hv
        | _ => cases hv
      · cases h1
  · cases h1

theorem FpOK.zero {f : FuncId} {c : FpCon} (h : ∀ a, c.fn a = none) : FpOK F f c := fun a b pa ps hb => by rw [h a] at hb; cases hb
theorem ConOK.zero {f : FuncId} {c : Con} (h : ∀ a, c.fn a = none) : ConOK F f c := fun a b as pa sto fz hb => by rw [h a] at hb; cases hb

end
end Go.Vm
