/- A region, in the order of the text or in a drawn one. -/
import Derived.Test.YtohmmcfniijjkaaMVmOp
namespace Go.Vm

def chkOpers (P : Program) (prims : FuncId → Bool) (nt : Nat) (mops : Array Oper) : List XOper → List Oper → Bool
  | [], [] => true
  | x :: xs, o :: os => chkOper P prims nt mops x o && chkOpers P prims nt mops xs os
  | _, _ => false

theorem chkOpers_get {P : Program} {prims : FuncId → Bool} {nt : Nat} {mops : Array Oper} : ∀ {xs : List XOper} {os : List Oper}, chkOpers P prims nt mops xs os = true →
    xs.length = os.length ∧ ∀ (i : Nat) (x : XOper) (o : Oper), xs[i]? = some x → os[i]? = some o → chkOper P prims nt mops x o = true
  | [], [], _ => ⟨rfl, fun i x o h => by simp at h⟩
  | x :: xs, o :: os, h => by
    simp only [chkOpers, Bool.and_eq_true] at h
    obtain ⟨h1, h2⟩ := chkOpers_get h.2
    refine ⟨by simp [h1], fun i y p hy hp => ?_⟩
    cases i with
    | zero => simp at hy hp; subst hy hp; exact h.1
    | succ i => exact h2 i y p (by simpa using hy) (by simpa using hp)
  | [], _ :: _, h => by simp [chkOpers] at h
  | _ :: _, [], h => by simp [chkOpers] at h

/-- The masks: what is bound to have run ahead. -/
def bit (m i : Nat) : Bool := Nat.testBit m i

def edgesMask (masks : List Nat) (j : Nat) : List Edge → Option Nat
  | [] => some 0
  | e :: es => if Nat.blt e.on j then (match edgesMask masks j es with
    | some m => if Region.binds .any e then some (m ||| ((masks.getD e.on 0) ||| (1 <<< e.on))) else some m
    | none => none) else none

def chkMasks (masks : List Nat) : Nat → List Nat → List Oper → Bool
  | _, [], [] => true
  | j, m :: ms, o :: os => (match edgesMask masks j o.after.toList with | some m' => m == m' | none => false) && chkMasks masks (j + 1) ms os
  | _, _, _ => false

def chkSlots1 (i : Nat) (x : XOper) (ux : List Nat) : List XOper → List Nat → Bool
  | [], _ => true
  | y :: ys, m :: ms => (bit m i || ((match x.dst with
      | some d => !has (uses y) d && (match y.dst with | some d' => !(Nat.beq d d') | none => true)
      | none => true) && (match y.dst with | some d => !has ux d | none => true))) && chkSlots1 i x ux ys ms
  | _ :: _, [] => false

def chkSlots : Nat → List XOper → List Nat → Bool
  | _, [], _ => true
  | i, x :: xs, _ :: ms => chkSlots1 i x (uses x) xs ms && chkSlots (i + 1) xs ms
  | _, _ :: _, [] => false

def chkRegion (P : Program) (prims : FuncId → Bool) (nt : Nat) (draw : Option (List Nat)) (xops : List XOper) (mops : Array Oper) (flag : Bool) : Bool :=
  chkOpers P prims nt mops xops mops.toList && match draw with
  | none => !flag
  | some bf => flag && Nat.beq bf.length xops.length && chkMasks bf 0 bf mops.toList && chkSlots 0 xops bf

section
variable {P : Program} {F : Tab} {rec : Task → Option Out} {ops : List XOper} {S : Nat → St} {X : Nat → Option XR} {bef : Nat → Nat → Prop} {im0 : Im} {loc0 : Loc} {w0 : World} {nt : Nat}
  {done : Nat → Prop} {im : Im} {loc : Loc} {a : Act} {w : World} {i : Nat} {prims : FuncId → Bool} {mops : Array Oper}

theorem Ord.text : Ord ops S X (· < ·) where
  slot1 := fun _ _ _ _ _ h _ _ _ _ => h
  slot2 := fun _ _ _ _ _ h _ _ _ _ => h
  tok1 := fun _ _ _ h _ _ _ => h
  tok2 := fun _ _ _ h _ _ _ => h
  tok3 := fun _ _ _ h _ _ _ _ _ _ => h
  bar := fun _ _ h _ _ => h
  cl := fun _ _ _ _ _ => .inr fun _ h _ => h

theorem wpOps_text (hE : Env0 P F rec) (hr : Run F rec ops S X) (hc : ∀ (i : Nat) (x : XOper) (o : Oper), ops[i]? = some x → mops[i]? = some o → chkOper P prims nt mops x o = true) (hlen : ops.length = mops.size)
    {Q : Exit → Act → World → Prop} (hQ : ∀ im loc a w, Inv ops S X im0 loc0 w0 nt (fun i => i < ops.length) im loc a w → Q .normal a w) :
    ∀ (d n : Nat) (im : Im) (loc : Loc) (a : Act) (w : World), n + d = ops.length → Inv ops S X im0 loc0 w0 nt (fun i => i < n) im loc a w → wpOps P mops Q (List.range' n d) a w
  | 0, n, im, loc, a, w, hn, hv => by
    have : n = ops.length := by omega
    subst this
    exact hQ im loc a w hv
  | d + 1, n, im, loc, a, w, hn, hv => by
    rw [List.range'_succ, wpOps_cons]
    have hx := List.getElem?_eq_getElem (show n < ops.length by omega)
    have ho := Array.getElem?_eq_getElem (show n < mops.size by omega)
    refine Inv.wpOp hE hr Ord.text hv { lt := by omega, nd := by omega, pre := fun j _ h => h, clo := fun k _ h1 j _ h2 => by omega } hx ho (hc n _ _ hx ho) fun im' loc' a' w' h' => ?_
    refine wpOps_text hE hr hc hlen hQ d (n + 1) im' loc' a' w' (by omega) ?_
    have e : plus (fun i => i < n) n = fun i => i < n + 1 := by
      funext j; unfold plus; apply propext; omega
    rw [e] at h'; exact h'

/-! ### drawn orders -/

def Bef (masks : List Nat) (i j : Nat) : Prop := bit (masks.getD j 0) i = true

theorem edgesMask_ok {masks : List Nat} {j : Nat} : ∀ {es : List Edge} {m : Nat}, edgesMask masks j es = some m → (∀ e ∈ es, e.on < j) ∧
    ∀ i, bit m i = true → ∃ e ∈ es, Region.binds .any e = true ∧ (e.on = i ∨ bit (masks.getD e.on 0) i = true)
  | [], m, h => by
    simp only [edgesMask, Option.some.injEq] at h; subst h
    exact ⟨fun e h => (by cases h), fun i h => by simp [bit] at h⟩
  | e :: es, m, h => by
    simp only [edgesMask] at h
    split at h
    · rename_i hlt
      split at h
      · rename_i m' hm'
        obtain ⟨h1, h2⟩ := edgesMask_ok hm'
        refine ⟨fun e' he' => ?_, fun i hi => ?_⟩
        · rcases List.mem_cons.1 he' with rfl | he'
          · simpa using hlt
          · exact h1 e' he'
        · split at h
          · rename_i hb
            injection h with h; subst h
            simp only [bit, Nat.testBit_or, Bool.or_eq_true] at hi
            rcases hi with hi | hi | hi
            · obtain ⟨e', he', h3⟩ := h2 i hi
              exact ⟨e', List.mem_cons_of_mem _ he', h3⟩
            · exact ⟨e, by simp, hb, .inr hi⟩
            · refine ⟨e, by simp, hb, .inl ?_⟩
              rw [Nat.one_shiftLeft, Nat.testBit_two_pow] at hi
              simpa using hi
          · injection h with h; subst h
            obtain ⟨e', he', h3⟩ := h2 i hi
            exact ⟨e', List.mem_cons_of_mem _ he', h3⟩
      · cases h
    · cases h

theorem chkMasks_ok {masks : List Nat} : ∀ {j : Nat} {ms : List Nat} {os : List Oper}, chkMasks masks j ms os = true → ms.length = os.length ∧
    ∀ (k : Nat) (m : Nat) (o : Oper), ms[k]? = some m → os[k]? = some o → edgesMask masks (j + k) o.after.toList = some m
  | j, [], [], _ => ⟨rfl, fun k m o h => by simp at h⟩
  | j, m :: ms, o :: os, h => by
    simp only [chkMasks, Bool.and_eq_true] at h
    obtain ⟨h1, h2⟩ := h
    obtain ⟨h3, h4⟩ := chkMasks_ok h2
    refine ⟨by simp [h3], fun k m' o' hm ho => ?_⟩
    cases k with
    | zero =>
      simp at hm ho; subst hm ho
      split at h1
      · rename_i m2 hm2
        have : m = m2 := by simpa using h1
        subst this; exact hm2
      · cases h1
    | succ k =>
      have := h4 k m' o' (by simpa using hm) (by simpa using ho)
      rw [show j + (k + 1) = j + 1 + k by omega]; exact this
  | j, [], _ :: _, h => by simp [chkMasks] at h
  | j, _ :: _, [], h => by simp [chkMasks] at h

theorem chkSlots1_ok {i : Nat} {x : XOper} {ux : List Nat} : ∀ {ys : List XOper} {ms : List Nat}, chkSlots1 i x ux ys ms = true → ∀ (k : Nat) (y : XOper), ys[k]? = some y →
    bit (ms.getD k 0) i = true ∨ ((∀ d, x.dst = some d → d ∉ uses y ∧ y.dst ≠ some d) ∧ ∀ d, y.dst = some d → d ∉ ux)
  | [], _, _, k, y, h => by simp at h
  | z :: ys, [], h, k, y, hy => by simp [chkSlots1] at h
  | z :: ys, m :: ms, h, k, y, hy => by
    simp only [chkSlots1, Bool.and_eq_true, Bool.or_eq_true] at h
    obtain ⟨h1, h2⟩ := h
    cases k with
    | succ k => simpa using chkSlots1_ok h2 k y (by simpa using hy)
    | zero =>
      simp at hy; subst hy
      rcases h1 with h1 | ⟨h1, h3⟩
      · exact .inl (by simpa using h1)
      · refine .inr ⟨fun d hd => ?_, fun d hd => ?_⟩
        · rw [hd] at h1
          simp only [Bool.and_eq_true, Bool.not_eq_true'] at h1
          refine ⟨has_false.1 h1.1, fun hz => ?_⟩
          rw [hz] at h1
          simp at h1
        · rw [hd] at h3
          simp only [Bool.not_eq_true'] at h3
          exact has_false.1 h3

theorem chkSlots_ok : ∀ {i0 : Nat} {xs : List XOper} {ms : List Nat}, chkSlots i0 xs ms = true → ∀ (i j : Nat) (x y : XOper), i < j → xs[i]? = some x → xs[j]? = some y →
    bit (ms.getD j 0) (i0 + i) = true ∨ ((∀ d, x.dst = some d → d ∉ uses y ∧ y.dst ≠ some d) ∧ ∀ d, y.dst = some d → d ∉ uses x)
  | i0, [], _, _, i, j, x, y, _, hx, _ => by simp at hx
  | i0, z :: xs, [], h, i, j, x, y, _, hx, _ => by simp [chkSlots] at h
  | i0, z :: xs, m :: ms, h, i, j, x, y, hij, hx, hy => by
    simp only [chkSlots, Bool.and_eq_true] at h
    obtain ⟨h1, h2⟩ := h
    cases j with
    | zero => omega
    | succ j =>
      cases i with
      | zero =>
        simp at hx; subst hx
        simpa using chkSlots1_ok h1 j y (by simpa using hy)
      | succ i =>
        have := chkSlots_ok h2 i j x y (by omega) (by simpa using hx) (by simpa using hy)
        rw [show i0 + (i + 1) = i0 + 1 + i by omega]
        simpa using this

theorem freeOf_ok {i : Nat} {t : Tr} : ∀ {l : List (Tr × Nat)}, freeOf i t l = true → ∀ (k : Nat) (b : Tr) (m : Nat), l[k]? = some (b, m) → t.clash b = true → bit m i = true
  | [], _, k, b, m, h, _ => by simp at h
  | (b', m') :: r, h, k, b, m, hk, hc => by
    simp only [freeOf, Bool.and_eq_true, Bool.or_eq_true, Bool.not_eq_true'] at h
    cases k with
    | zero =>
      simp at hk
      obtain ⟨rfl, rfl⟩ := hk
      rcases h.1 with h1 | h1
      · rw [hc] at h1; cases h1
      · exact h1
    | succ k => exact freeOf_ok h.2 k b m (by simpa using hk) hc

theorem orderOk_ok : ∀ {i0 : Nat} {l : List (Tr × Nat)}, orderOk i0 l = true → (∀ (i : Nat) (t : Tr) (m : Nat), l[i]? = some (t, m) → t.cl = true) ∧
    ∀ (i j : Nat) (t b : Tr) (m m' : Nat), i < j → l[i]? = some (t, m) → l[j]? = some (b, m') → t.clash b = true → bit m' (i0 + i) = true
  | _, [], _ => ⟨fun i t m h => by simp at h, fun i j t b m m' _ h => by simp at h⟩
  | i0, (t0, m0) :: r, h => by
    simp only [orderOk, Bool.and_eq_true] at h
    obtain ⟨⟨h1, h2⟩, h3⟩ := h
    obtain ⟨h4, h5⟩ := orderOk_ok h3
    refine ⟨fun i t m hi => ?_, fun i j t b m m' hij hi hj hc => ?_⟩
    · cases i with
      | zero => simp at hi; obtain ⟨rfl, rfl⟩ := hi; exact h1
      | succ i => exact h4 i t m (by simpa using hi)
    · cases j with
      | zero => omega
      | succ j =>
        cases i with
        | zero =>
          simp at hi; obtain ⟨rfl, rfl⟩ := hi
          exact freeOf_ok h2 j b m' (by simpa using hj) hc
        | succ i =>
          rw [show i0 + (i + 1) = i0 + 1 + i by omega]
          exact h5 i j t b m m' (by omega) (by simpa using hi) (by simpa using hj) hc

theorem meets_of {l m : List Nat} {t : Nat} (h1 : t ∈ l) (h2 : t ∈ m) : meets l m = true := by
  unfold meets
  rw [List.any_eq_true]
  exact ⟨t, h1, has_iff.2 h2⟩

theorem Ord.drawn (hr : Run F rec ops S X) {masks : List Nat} (hml : masks.length = ops.length) (hs : chkSlots 0 ops masks = true) (ho : orderOk 0 ((trsOf S X ops.length).zip masks) = true) : Ord ops S X (Bef masks) := by
  obtain ⟨hcl, hcz⟩ := orderOk_ok ho
  have hget : ∀ i, i < ops.length → ((trsOf S X ops.length).zip masks)[i]? = some (trOf (X i) (S i), masks.getD i 0) := by
    intro i hi
    rw [List.getElem?_zip_eq_some]
    refine ⟨?_, ?_⟩
    · unfold trsOf; simp [hi]
    · rw [List.getD_eq_getElem?_getD, List.getElem?_eq_getElem (by omega)]; rfl
  have clash : ∀ i j, i < j → j < ops.length → (trOf (X i) (S i)).clash (trOf (X j) (S j)) = true → Bef masks i j := by
    intro i j hij hj hc
    have := hcz i j _ _ _ _ hij (hget i (by omega)) (hget j hj) hc
    unfold Bef; simpa using this
  have tch : ∀ j, touches X j → (trOf (X j) (S j)).touches = true := by
    intro j h
    unfold touches at h
    unfold trOf
    cases hX : X j with
    | none => rw [hX] at h; exact h.elim
    | some x =>
      rw [hX] at h
      cases x with
      | shr v s z => rfl
      | loc r =>
        simp only [XR.tr, Tr.touches, Bool.or_false]
        rcases h with h | h | h | h
        · cases hrd : r.rd with
          | nil => exact absurd hrd h
          | cons _ _ => simp
        · cases hrd : r.fr with
          | nil => exact absurd hrd h
          | cons _ _ => simp
        · cases hrd : r.wr with
          | nil => exact absurd hrd h
          | cons _ _ => simp
        · cases hrd : r.news with
          | nil => exact absurd hrd h
          | cons _ _ => simp
  have brr : ∀ j, isShr X j → (trOf (X j) (S j)).bar = true := by
    rintro j ⟨v, s, z, h⟩; rw [h]; rfl
  have tW : ∀ j t, W X j t → touches X j := fun j t h => touches_of_W h
  have tA : ∀ j t, A X j t → touches X j := by
    intro j t h
    unfold A at h; unfold touches
    cases hX : X j with
    | none => rw [hX] at h; exact h.elim
    | some x =>
      rw [hX] at h
      cases x with
      | shr v s z => exact h.elim
      | loc r =>
        rcases h with h | h
        · exact .inl (by intro e; rw [e] at h; cases h)
        · exact .inr (.inl (by intro e; rw [e] at h; cases h))
  have bar : ∀ i j, i < j → j < ops.length → (isShr X i ∧ touches X j ∨ touches X i ∧ isShr X j) → Bef masks i j := by
    intro i j hij hj h
    refine clash i j hij hj ?_
    unfold Tr.clash
    rcases h with ⟨h1, h2⟩ | ⟨h1, h2⟩
    · rw [brr i h1, tch j h2]; simp
    · rw [brr j h2, tch i h1]; simp
  have wrT : ∀ j t, W X j t → ¬ isShr X j → t ∈ (trOf (X j) (S j)).wr := by
    intro j t h hn
    unfold W at h
    cases hX : X j with
    | none => rw [hX] at h; exact h.elim
    | some x =>
      rw [hX] at h
      cases x with
      | shr v s z => exact absurd ⟨v, s, z, hX⟩ hn
      | loc r =>
        obtain ⟨k, hk⟩ := h
        exact List.mem_map.2 ⟨(t, k), hk, rfl⟩
  have rdT : ∀ j t, A X j t → t ∈ (trOf (X j) (S j)).rd := by
    intro j t h
    unfold A at h
    cases hX : X j with
    | none => rw [hX] at h; exact h.elim
    | some x =>
      rw [hX] at h
      cases x with
      | shr v s z => exact h.elim
      | loc r => exact List.mem_append.2 h
  exact {
    slot1 := fun i j t x y hij hx hy hd hu => by
      rcases chkSlots_ok hs i j x y hij hx hy with h | ⟨h, _⟩
      · unfold Bef; simpa using h
      · rcases hu with hu | hu
        · exact absurd hu (h t hd).1
        · exact absurd hu (h t hd).2
    slot2 := fun i j t x y hij hx hy hd hu => by
      rcases chkSlots_ok hs i j x y hij hx hy with h | ⟨_, h⟩
      · unfold Bef; simpa using h
      · exact absurd hu (h t hd)
    tok1 := fun i j t hij hj hW hAW => by
      by_cases hi : isShr X i
      · exact bar i j hij hj (.inl ⟨hi, hAW.elim (tA j t) (tW j t)⟩)
      · by_cases hsj : isShr X j
        · exact bar i j hij hj (.inr ⟨tW i t hW, hsj⟩)
        · refine clash i j hij hj ?_
          unfold Tr.clash
          rcases hAW with h | h
          · rw [meets_of (wrT i t hW hi) (rdT j t h)]; simp
          · rw [meets_of (wrT i t hW hi) (wrT j t h hsj)]; simp
    tok2 := fun i j t hij hj hA hW => by
      by_cases hsj : isShr X j
      · exact bar i j hij hj (.inr ⟨tA i t hA, hsj⟩)
      · refine clash i j hij hj ?_
        unfold Tr.clash
        rw [meets_of (rdT i t hA) (wrT j t hW hsj)]; simp
    tok3 := fun i j t hij hj hsi h1 h2 hsj hW => by
      refine clash i j hij hj ?_
      unfold Tr.clash
      have : ((trOf (X j) (S j)).wr.any fun t => Nat.ble (trOf (X i) (S i)).lo t && Nat.blt t (trOf (X i) (S i)).hi) = true := by
        rw [List.any_eq_true]
        refine ⟨t, wrT j t hW hsj, ?_⟩
        rcases hr.steps i _ (List.getElem?_eq_getElem (show i < ops.length by omega)) with ⟨_, x, hx, _, hX, hn⟩ | ⟨_, hX, hn⟩
        · cases x with
          | shr v s z => exact absurd ⟨v, s, z, hX⟩ hsi
          | loc r =>
            rw [hn, noRes_next] at h2
            rw [hX]
            simp only [trOf, XR.tr, Bool.and_eq_true, Nat.ble_eq]
            exact ⟨h1, by simpa using h2⟩
        · rw [hn] at h2; dsimp only at h2; omega
      rw [this]; simp
    bar := bar
    cl := fun i t hi hsi hAW => by
      left
      have hc := hcl i _ _ (hget i hi)
      cases hX : X i with
      | none => rcases hAW with h | h
                · unfold A at h; rw [hX] at h; exact h.elim
                · unfold W at h; rw [hX] at h; exact h.elim
      | some x =>
        cases x with
        | shr v s z => exact absurd ⟨v, s, z, hX⟩ hsi
        | loc r =>
          have hb : ∀ u v : Nat, Nat.blt u v = true → u < v := fun u v h => by simpa using h
          rw [hX] at hc
          simp only [trOf, XR.tr, Bool.and_eq_true, List.all_eq_true] at hc
          rcases hAW with h | h
          · unfold A at h; rw [hX] at h
            exact hb _ _ (hc.1 t (List.mem_append.2 h))
          · unfold W at h; rw [hX] at h
            obtain ⟨k, hk⟩ := h
            exact hb _ _ (hc.2 (t, k) hk) }

end
end Go.Vm
