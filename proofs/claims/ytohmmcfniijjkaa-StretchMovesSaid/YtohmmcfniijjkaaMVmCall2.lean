/- A pure call: what comes back. -/
import Derived.Test.YtohmmcfniijjkaaMVmCall
namespace Go.Vm
section
variable {im im' : Im} {loc loc' : Loc} {sto : Sto} {w : World}

mutual
theorem noref_ok : ∀ {x : PV} {v : Value}, x.noref = true → VR im loc x v → VR im' loc' x v
  | .int k n, v, _, h => by rw [h.int_inv]; exact .int _ _
  | .bool b, v, _, h => by rw [h.bool_inv]; exact .bool _
  | .str s, v, _, h => by rw [h.str_inv]; exact .str _
  | .agg cs, v, hn, h => by
    obtain ⟨vs, rfl, hr⟩ := h.agg_inv
    exact .agg _ _ (norefL_ok (by simpa [PV.noref] using hn) hr)
  | .tup cs, v, hn, h => by
    obtain ⟨vs, rfl, hr⟩ := h.tup_inv
    exact .tup _ _ (norefL_ok (by simpa [PV.noref] using hn) hr)
  | .undef, _, hn, _ => by simp [PV.noref] at hn
  | .nul, _, hn, _ => by simp [PV.noref] at hn
  | .sl .., _, hn, _ => by simp [PV.noref] at hn
  | .own .., _, hn, _ => by simp [PV.noref] at hn
  | .ptr .., _, hn, _ => by simp [PV.noref] at hn
  | .rptr .., _, hn, _ => by simp [PV.noref] at hn
  | .mp .., _, hn, _ => by simp [PV.noref] at hn
  | .clo .., _, hn, _ => by simp [PV.noref] at hn
  | .nilf, _, hn, _ => by simp [PV.noref] at hn
theorem norefL_ok : ∀ {x : List PV} {v : List Value}, norefL x = true → VRL im loc x v → VRL im' loc' x v
  | [], _, _, h => by cases h; exact .nil
  | x :: xs, _, hn, h => by
    simp only [norefL, Bool.and_eq_true] at hn
    cases h with
    | cons _ u _ us h1 h2 => exact .cons _ _ _ _ (noref_ok hn.1 h1) (norefL_ok hn.2 h2)
end

mutual
/-- A result that is kept where nobody writes to it. -/
theorem imF_ok (hi : ImLe im im') : ∀ {x y : PV} {v : Value}, (∀ t, t ∈ toks noBx x → Over im im' loc sto w t) → VR im loc x v → imF sto x = some y → VR im' loc' y v
  | .int k n, y, v, _, hv, h => by simp only [imF, Option.some.injEq] at h; subst h; rw [hv.int_inv]; exact .int _ _
  | .bool b, y, v, _, hv, h => by simp only [imF, Option.some.injEq] at h; subst h; rw [hv.bool_inv]; exact .bool _
  | .str b, y, v, _, hv, h => by simp only [imF, Option.some.injEq] at h; subst h; rw [hv.str_inv]; exact .str _
  | .agg cs, y, v, ht, hv, h => by
    simp only [imF, Option.map_eq_some_iff] at h
    obtain ⟨ys, hys, rfl⟩ := h
    obtain ⟨vs, rfl, hvr⟩ := hv.agg_inv
    exact .agg _ _ (imFL_ok hi (fun t h => ht t (by simpa [toks] using h)) hvr hys)
  | .tup cs, y, v, ht, hv, h => by
    simp only [imF, Option.map_eq_some_iff] at h
    obtain ⟨ys, hys, rfl⟩ := h
    obtain ⟨vs, rfl, hvr⟩ := hv.tup_inv
    exact .tup _ _ (imFL_ok hi (fun t h => ht t (by simpa [toks] using h)) hvr hys)
  | .sl e c rows, y, v, _, hv, h => by
    simp only [imF, Option.some.injEq] at h
    subst h
    obtain ⟨a, cap, rfl, h1, h2, h3⟩ := hv.sl_inv
    exact .sl e false rows a cap h1 (by simp) fun hne => let ⟨b, o, ha, hr⟩ := h3 hne; ⟨b, o, ha, hr.mono fun _ _ e => hi.cell e⟩
  | .own t e off len cap ex, y, v, ht, hv, h => by
    obtain ⟨li, a, cap', rfl, hl, h2, h3, h4, h5, h6, h7⟩ := hv.own_inv
    obtain ⟨k, hk, hbr, him⟩ := ht t (by simp [toks]) li hl
    simp only [imF, hk] at h
    cases k with
    | arr e' rows =>
      simp only [Option.some.injEq] at h
      subst h
      obtain ⟨b1, b2, b3⟩ := hbr
      have hlen : ((rows.drop off).take len).length = len := by simp; omega
      have he : e' = e := by rw [← b1, h2]
      subst he
      have := VR.sl (im := im') (loc := loc') e' false ((rows.drop off).take len) a cap' (by omega) (by simp) (fun hne => by
        have hrne : rows ≠ [] := by intro e; subst e; simp at hne
        obtain ⟨arr, el, ha1, ha2, ha3, hat⟩ := b3 hrne
        rcases h7 with h7 | ⟨_, rfl, _⟩
        · exfalso; apply hne; apply List.length_eq_zero_iff.1; omega
        · refine ⟨_, _, rfl, hat.rowsFrom.mono fun k v hkv => ?_⟩
          rw [imCell_of (by rw [him (solid_arr hrne)]; exact ha1)]; exact hkv)
      rwa [hlen] at this
    | _ => cases h
  | .undef, _, _, _, _, h => by simp [imF] at h
  | .nul, _, _, _, _, h => by simp [imF] at h
  | .ptr .., _, _, _, _, h => by simp [imF] at h
  | .rptr .., _, _, _, _, h => by simp [imF] at h
  | .mp .., _, _, _, _, h => by simp [imF] at h
  | .clo .., _, _, _, _, h => by simp [imF] at h
  | .nilf, _, _, _, _, h => by simp [imF] at h
theorem imFL_ok (hi : ImLe im im') : ∀ {x y : List PV} {v : List Value}, (∀ t, t ∈ toksL noBx x → Over im im' loc sto w t) → VRL im loc x v → imFL sto x = some y → VRL im' loc' y v
  | [], y, v, _, hv, h => by simp only [imFL, Option.some.injEq] at h; subst h; cases hv; exact .nil
  | x :: xs, y, v, ht, hv, h => by
    simp only [imFL] at h
    cases hx : imF sto x with
    | none => rw [hx] at h; cases h
    | some x' =>
      cases hxs : imFL sto xs with
      | none => rw [hx, hxs] at h; cases h
      | some xs' =>
        rw [hx, hxs] at h
        simp only [Option.some.injEq] at h
        subst h
        cases hv with
        | cons _ u _ us h1 h2 =>
          exact .cons _ _ _ _ (imF_ok hi (fun t h => ht t (by simp [toksL, h])) h1 hx) (imFL_ok hi (fun t h => ht t (by simp [toksL, h])) h2 hxs)
end

theorem has_iff {l : List Nat} {t : Nat} : has l t = true ↔ t ∈ l := by
  unfold has
  rw [List.any_eq_true]
  constructor
  · rintro ⟨x, hx, h⟩
    have : t = x := by simpa using h
    subst this; exact hx
  · intro h; exact ⟨t, h, by simp⟩

theorem has_false {l : List Nat} {t : Nat} : has l t = false ↔ t ∉ l := by
  rw [← has_iff]; simp

def noIm : Im := fun _ => none

/-- The new blocks that a result becomes: where each lies ('lis'), and which of the callee's it was ('ts'; none: an empty one). -/
structure ImO (loc1 : Loc) (sto1 : Sto) (fz1 : List Nat) (w : World) (seen seen' : List Nat) (news : Sto) (lis : List LI) (ts : List (Option Nat)) : Prop where
  len1 : lis.length = news.length
  len2 : ts.length = news.length
  br : ∀ (j : Nat) (k : Blk) (li : LI), news[j]? = some k → lis[j]? = some li → (∃ e rows, k = .arr e rows) ∧ BR noIm noLoc w li k
  own : ∀ (j : Nat) (k : Blk) (li : LI) (t : Nat), news[j]? = some k → lis[j]? = some li → ts[j]? = some (some t) → loc1 t = some li ∧ sto1[t]? = some k ∧ t ∉ fz1 ∧ t ∈ seen' ∧ t ∉ seen
  dum : ∀ (j : Nat) (k : Blk), news[j]? = some k → ts[j]? = some none → k.solid = false
  inj : ∀ (i j t : Nat), ts[i]? = some (some t) → ts[j]? = some (some t) → i = j
  sub : ∀ t, t ∈ seen → t ∈ seen'

theorem ImO.none {loc1 : Loc} {sto1 : Sto} {fz1 : List Nat} {seen : List Nat} : ImO loc1 sto1 fz1 w seen seen [] [] [] where
  len1 := rfl
  len2 := rfl
  br := fun j k li h => by simp at h
  own := fun j k li t h => by simp at h
  dum := fun j k h => by simp at h
  inj := fun i j t h => by simp at h
  sub := fun _ h => h

theorem split_get {α : Type} {a b : List α} {j : Nat} {x : α} (h : (a ++ b)[j]? = some x) : (j < a.length ∧ a[j]? = some x) ∨ (a.length ≤ j ∧ b[j - a.length]? = some x) := by
  rcases Nat.lt_or_ge j a.length with hj | hj
  · rw [List.getElem?_append_left hj] at h; exact .inl ⟨hj, h⟩
  · rw [List.getElem?_append_right hj] at h; exact .inr ⟨hj, h⟩

theorem ImO.append {loc1 : Loc} {sto1 : Sto} {fz1 s0 s1 s2 : List Nat} {n1 n2 : Sto} {l1 l2 : List LI} {t1 t2 : List (Option Nat)} (h : ImO loc1 sto1 fz1 w s0 s1 n1 l1 t1) (k : ImO loc1 sto1 fz1 w s1 s2 n2 l2 t2) :
    ImO loc1 sto1 fz1 w s0 s2 (n1 ++ n2) (l1 ++ l2) (t1 ++ t2) := by
  have e1 := h.len1
  have e2 := h.len2
  have inseen : ∀ (j t : Nat), t1[j]? = some (some t) → t ∈ s1 := by
    intro j t ht
    have hj := (List.getElem?_eq_some_iff.1 ht).1
    exact (h.own j n1[j] l1[j] t (List.getElem?_eq_getElem (by omega)) (List.getElem?_eq_getElem (by omega)) ht).2.2.2.1
  have notseen : ∀ (j t : Nat), t2[j]? = some (some t) → t ∉ s1 := by
    intro j t ht
    have hj := (List.getElem?_eq_some_iff.1 ht).1
    have := k.len1; have := k.len2
    exact (k.own j n2[j] l2[j] t (List.getElem?_eq_getElem (by omega)) (List.getElem?_eq_getElem (by omega)) ht).2.2.2.2
  refine ⟨by simp [e1, k.len1], by simp [e2, k.len2], fun j b li hb hl => ?_, fun j b li t hb hl ht => ?_, fun j b hb ht => ?_, fun i j t hi hj => ?_, fun t ht => k.sub t (h.sub t ht)⟩
  · rcases split_get hb with ⟨h1, hb⟩ | ⟨h1, hb⟩
    · rcases split_get hl with ⟨h2, hl⟩ | ⟨h2, hl⟩
      · exact h.br j b li hb hl
      · omega
    · rcases split_get hl with ⟨h2, hl⟩ | ⟨h2, hl⟩
      · omega
      · rw [e1] at hl; exact k.br _ b li hb hl
  · rcases split_get hb with ⟨h1, hb⟩ | ⟨h1, hb⟩
    · rcases split_get hl with ⟨h2, hl⟩ | ⟨h2, hl⟩
      · rcases split_get ht with ⟨h3, ht⟩ | ⟨h3, ht⟩
        · obtain ⟨a1, a2, a3, a4, a5⟩ := h.own j b li t hb hl ht
          exact ⟨a1, a2, a3, k.sub t a4, a5⟩
        · omega
      · omega
    · rcases split_get hl with ⟨h2, hl⟩ | ⟨h2, hl⟩
      · omega
      · rcases split_get ht with ⟨h3, ht⟩ | ⟨h3, ht⟩
        · omega
        · rw [e1] at hl; rw [e2] at ht
          obtain ⟨a1, a2, a3, a4, a5⟩ := k.own _ b li t hb hl ht
          exact ⟨a1, a2, a3, a4, fun hs => a5 (h.sub t hs)⟩
  · rcases split_get hb with ⟨h1, hb⟩ | ⟨h1, hb⟩
    · rcases split_get ht with ⟨h3, ht⟩ | ⟨h3, ht⟩
      · exact h.dum j b hb ht
      · omega
    · rcases split_get ht with ⟨h3, ht⟩ | ⟨h3, ht⟩
      · omega
      · rw [e2] at ht; exact k.dum _ b hb ht
  · rcases split_get hi with ⟨h1, hi⟩ | ⟨h1, hi⟩
    · rcases split_get hj with ⟨h2, hj⟩ | ⟨h2, hj⟩
      · exact h.inj i j t hi hj
      · exact absurd (inseen i t hi) (notseen _ t hj)
    · rcases split_get hj with ⟨h2, hj⟩ | ⟨h2, hj⟩
      · exact absurd (inseen j t hj) (notseen _ t hi)
      · have := k.inj _ _ t hi hj; omega

/-- What is known of the callee's blocks. -/
def Knows (loc1 : Loc) (sto1 : Sto) (im1 : Im) (w : World) : Prop := ∀ t li, loc1 t = some li → ∃ k, sto1[t]? = some k ∧ BR im1 loc1 w li k

mutual
theorem imO_ok {im1 : Im} {loc1 : Loc} {sto1 : Sto} {fz1 : List Nat} (hk : Knows loc1 sto1 im1 w) : ∀ {x y : PV} {v : Value} {nx : Nat} {seen seen' : List Nat} {news : Sto},
    VR im1 loc1 x v → imO sto1 fz1 nx seen x = some (y, news, seen') →
    ∃ lis ts, ImO loc1 sto1 fz1 w seen seen' news lis ts ∧ ∀ (im2 : Im) (loc2 : Loc), (∀ (j : Nat) (li : LI), lis[j]? = some li → loc2 (nx + j) = some li) → VR im2 loc2 y v
  | .int k n, y, v, nx, seen, seen', news, hv, h => by
    simp only [imO, Option.some.injEq, Prod.mk.injEq] at h
    obtain ⟨rfl, rfl, rfl⟩ := h
    exact ⟨[], [], .none, fun _ _ _ => by rw [hv.int_inv]; exact .int _ _⟩
  | .bool k, y, v, nx, seen, seen', news, hv, h => by
    simp only [imO, Option.some.injEq, Prod.mk.injEq] at h
    obtain ⟨rfl, rfl, rfl⟩ := h
    exact ⟨[], [], .none, fun _ _ _ => by rw [hv.bool_inv]; exact .bool _⟩
  | .agg cs, y, v, nx, seen, seen', news, hv, h => by
    simp only [imO, Option.map_eq_some_iff, Prod.mk.injEq] at h
    obtain ⟨⟨ys, n2, s2⟩, hr, rfl, rfl, rfl⟩ := h
    obtain ⟨vs, rfl, hvr⟩ := hv.agg_inv
    obtain ⟨lis, ts, h1, h2⟩ := imOL_ok hk hvr hr
    exact ⟨lis, ts, h1, fun im2 loc2 hl => .agg _ _ (h2 im2 loc2 hl)⟩
  | .tup cs, y, v, nx, seen, seen', news, hv, h => by
    simp only [imO, Option.map_eq_some_iff, Prod.mk.injEq] at h
    obtain ⟨⟨ys, n2, s2⟩, hr, rfl, rfl, rfl⟩ := h
    obtain ⟨vs, rfl, hvr⟩ := hv.tup_inv
    obtain ⟨lis, ts, h1, h2⟩ := imOL_ok hk hvr hr
    exact ⟨lis, ts, h1, fun im2 loc2 hl => .tup _ _ (h2 im2 loc2 hl)⟩
  | .sl e c rows, y, v, nx, seen, seen', news, hv, h => by
    obtain ⟨a, cap, rfl, h1, h2, h3⟩ := hv.sl_inv
    cases c with
    | false => simp [imO] at h
    | true =>
      cases rows with
      | cons r rs => simp [imO] at h
      | nil =>
        simp only [imO, Option.some.injEq, Prod.mk.injEq] at h
        obtain ⟨rfl, rfl, rfl⟩ := h
        have hcap : cap = 0 := h2 rfl
        subst hcap
        refine ⟨[⟨0, 0, e, 0, 0⟩], [none], ⟨rfl, rfl, fun j k li hj hl => ?_, fun j k li t hj hl ht => ?_, fun j k hj ht => ?_, fun i j t hi hj => ?_, fun _ h => h⟩, fun im2 loc2 hl => ?_⟩
        · cases j with
          | zero =>
            simp at hj hl; subst hj hl
            exact ⟨⟨_, _, rfl⟩, rfl, rfl, fun hne => absurd rfl hne⟩
          | succ j => simp at hj
        · cases j <;> simp at ht
        · cases j with
          | zero => simp at hj; subst hj; rfl
          | succ j => simp at hj
        · cases i <;> simp at hi
        · exact .own nx e 0 0 0 false ⟨0, 0, e, 0, 0⟩ a 0 (hl 0 _ rfl) rfl (Nat.le_refl _) (Nat.le_refl _) (Nat.le_refl _) (by simp) (.inl rfl)
  | .own t e off len cap ex, y, v, nx, seen, seen', news, hv, h => by
    obtain ⟨li, a, cap', rfl, hl, h2, h3, h4, h5, h6, h7⟩ := hv.own_inv
    obtain ⟨k, hkk, hbr⟩ := hk t li hl
    simp only [imO, hkk] at h
    cases k with
    | arr e' rows =>
      dsimp only at h
      split at h
      · cases h
      · rename_i hs
        simp only [Bool.or_eq_true, not_or, Bool.not_eq_true] at hs
        simp only [Option.some.injEq, Prod.mk.injEq] at h
        obtain ⟨rfl, rfl, rfl⟩ := h
        refine ⟨[li], [some t], ⟨rfl, rfl, fun j k li' hj hl' => ?_, fun j k li' t' hj hl' ht => ?_, fun j k hj ht => ?_, fun i j t hi hj => ?_, fun _ h => List.mem_cons_of_mem _ h⟩, fun im2 loc2 hl2 => ?_⟩
        · cases j with
          | zero => simp at hj hl'; subst hj hl'; exact ⟨⟨_, _, rfl⟩, hbr⟩
          | succ j => simp at hj
        · cases j with
          | zero =>
            simp at hj hl' ht; subst hj hl' ht
            exact ⟨hl, hkk, has_false.1 hs.2, by simp, has_false.1 hs.1⟩
          | succ j => simp at hj
        · cases j <;> simp at ht
        · cases i with
          | zero =>
            cases j with
            | zero => rfl
            | succ j => simp at hj
          | succ i => simp at hi
        · exact .own nx e off len cap ex li a cap' (hl2 0 _ rfl) h2 h3 h4 h5 h6 h7
    | _ => cases h
  | .str s, y, v, nx, seen, seen', news, hv, h => by simp [imO] at h
  | .undef, y, v, nx, seen, seen', news, hv, h => by simp [imO] at h
  | .nul, y, v, nx, seen, seen', news, hv, h => by simp [imO] at h
  | .ptr .., y, v, nx, seen, seen', news, hv, h => by simp [imO] at h
  | .rptr .., y, v, nx, seen, seen', news, hv, h => by simp [imO] at h
  | .mp .., y, v, nx, seen, seen', news, hv, h => by simp [imO] at h
  | .clo .., y, v, nx, seen, seen', news, hv, h => by simp [imO] at h
  | .nilf, y, v, nx, seen, seen', news, hv, h => by simp [imO] at h
theorem imOL_ok {im1 : Im} {loc1 : Loc} {sto1 : Sto} {fz1 : List Nat} (hk : Knows loc1 sto1 im1 w) : ∀ {x y : List PV} {v : List Value} {nx : Nat} {seen seen' : List Nat} {news : Sto},
    VRL im1 loc1 x v → imOL sto1 fz1 nx seen x = some (y, news, seen') →
    ∃ lis ts, ImO loc1 sto1 fz1 w seen seen' news lis ts ∧ ∀ (im2 : Im) (loc2 : Loc), (∀ (j : Nat) (li : LI), lis[j]? = some li → loc2 (nx + j) = some li) → VRL im2 loc2 y v
  | [], y, v, nx, seen, seen', news, hv, h => by
    simp only [imOL, Option.some.injEq, Prod.mk.injEq] at h
    obtain ⟨rfl, rfl, rfl⟩ := h
    cases hv
    exact ⟨[], [], .none, fun _ _ _ => .nil⟩
  | x :: xs, y, v, nx, seen, seen', news, hv, h => by
    simp only [imOL] at h
    cases h1 : imO sto1 fz1 nx seen x with
    | none => rw [h1] at h; cases h
    | some r1 =>
      obtain ⟨y1, n1, s1⟩ := r1
      rw [h1] at h
      dsimp only at h
      cases h2 : imOL sto1 fz1 (nx + n1.length) s1 xs with
      | none => rw [h2] at h; cases h
      | some r2 =>
        obtain ⟨y2, n2, s2⟩ := r2
        rw [h2] at h
        simp only [Option.some.injEq, Prod.mk.injEq] at h
        obtain ⟨rfl, rfl, rfl⟩ := h
        cases hv with
        | cons _ u _ us hx hxs =>
          obtain ⟨l1, t1, a1, b1⟩ := imO_ok hk hx h1
          obtain ⟨l2, t2, a2, b2⟩ := imOL_ok hk hxs h2
          refine ⟨l1 ++ l2, t1 ++ t2, a1.append a2, fun im2 loc2 hl => .cons _ _ _ _ (b1 im2 loc2 fun j li hj => ?_) (b2 im2 loc2 fun j li hj => ?_)⟩
          · have := (List.getElem?_eq_some_iff.1 hj).1
            exact hl j li (by rw [List.getElem?_append_left this]; exact hj)
          · have := hl (n1.length + j) li (by rw [List.getElem?_append_right (by rw [a1.len1]; omega), a1.len1, show n1.length + j - n1.length = j by omega]; exact hj)
            rwa [← Nat.add_assoc] at this
end

end
end Go.Vm
