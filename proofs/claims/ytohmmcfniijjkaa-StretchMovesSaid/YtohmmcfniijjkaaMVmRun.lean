/- A region's run in the order of the text, step by step; what a block holds when some of its operations are done. -/
import Derived.Test.YtohmmcfniijjkaaMVmCall3
namespace Go.Vm

/-- The states of a run in the order of the text, and what each operation came to (none: it was skipped). -/
structure Run (F : Tab) (rec : Task → Option Out) (ops : List XOper) (S : Nat → St) (X : Nat → Option XR) : Prop where
  steps : ∀ (i : Nat) (o : XOper), ops[i]? = some o →
    (wanted o.guard (S i).env = some true ∧ ∃ x, evX F rec (S i).env (S i).sto (S i).fz o.op = some x ∧ x.ok (S i).fz = true ∧ X i = some x ∧ S (i + 1) = x.next o.dst (S i)) ∨
    (wanted o.guard (S i).env = some false ∧ X i = none ∧ S (i + 1) = { S i with env := putEnv o.dst .nul (S i).env })

def trOf (x : Option XR) (s : St) : Tr :=
  match x with
  | some x => x.tr s.sto.length
  | none => Tr.idle

def trsOf (S : Nat → St) (X : Nat → Option XR) (n : Nat) : List Tr := (List.range n).map fun i => trOf (X i) (S i)

theorem trsOf_succ (S : Nat → St) (X : Nat → Option XR) (n : Nat) : trsOf S X (n + 1) = trOf (X 0) (S 0) :: trsOf (fun i => S (i + 1)) (fun i => X (i + 1)) n := by
  unfold trsOf
  rw [List.range_succ_eq_map]
  simp [List.map_map, Function.comp_def]

theorem evOps_run {F : Tab} {rec : Task → Option Out} : ∀ (ops : List XOper) (st : St) (tr : List Tr) (st' : St) (tr' : List Tr), evOps F rec ops st tr = some (st', tr') →
    ∃ S X, S 0 = st ∧ S ops.length = st' ∧ Run F rec ops S X ∧ tr' = (trsOf S X ops.length).reverse ++ tr
  | [], st, tr, st', tr', h => by
    simp only [evOps, Option.some.injEq, Prod.mk.injEq] at h
    obtain ⟨rfl, rfl⟩ := h
    exact ⟨fun _ => st, fun _ => none, rfl, rfl, ⟨fun i o h => by simp at h⟩, by simp [trsOf]⟩
  | o :: l, st, tr, st', tr', h => by
    simp only [evOps] at h
    have mk : ∀ (s1 : St) (x : Option XR) (t1 : Tr), trOf x st = t1 → evOps F rec l s1 (t1 :: tr) = some (st', tr') →
        ((wanted o.guard st.env = some true ∧ ∃ y, evX F rec st.env st.sto st.fz o.op = some y ∧ y.ok st.fz = true ∧ x = some y ∧ s1 = y.next o.dst st) ∨
          (wanted o.guard st.env = some false ∧ x = none ∧ s1 = { st with env := putEnv o.dst .nul st.env })) →
        ∃ S X, S 0 = st ∧ S (o :: l).length = st' ∧ Run F rec (o :: l) S X ∧ tr' = (trsOf S X (o :: l).length).reverse ++ tr := by
      intro s1 x t1 ht he hs
      obtain ⟨S, X, h0, hn, hrun, htr⟩ := evOps_run l s1 (t1 :: tr) st' tr' he
      refine ⟨fun i => match i with | 0 => st | i + 1 => S i, fun i => match i with | 0 => x | i + 1 => X i, rfl, hn, ⟨fun i o' ho => ?_⟩, ?_⟩
      · cases i with
        | zero =>
          simp at ho; subst ho
          rcases hs with ⟨a, y, b, c, d, e⟩ | ⟨a, b, c⟩
          · exact .inl ⟨a, y, b, c, d, by rw [← e]; exact h0⟩
          · exact .inr ⟨a, b, by rw [← c]; exact h0⟩
        | succ i => exact hrun.steps i o' (by simpa using ho)
      · rw [List.length_cons, trsOf_succ, htr]
        simp [ht]
    cases hw : wanted o.guard st.env with
    | none => rw [hw] at h; cases h
    | some b =>
      rw [hw] at h
      cases b with
      | false => exact mk _ none _ rfl h (.inr ⟨hw, rfl, rfl⟩)
      | true =>
        dsimp only at h
        cases hx : evX F rec st.env st.sto st.fz o.op with
        | none => rw [hx] at h; cases h
        | some x =>
          rw [hx] at h
          dsimp only at h
          split at h
          · rename_i hok
            exact mk _ (some x) _ rfl h (.inl ⟨hw, x, hx, hok, rfl, rfl⟩)
          · cases h

theorem applyWr_length : ∀ (wr : List (Nat × Blk)) (s : Sto), (applyWr wr s).length = s.length
  | [], s => rfl
  | (t, b) :: r, s => by rw [applyWr, applyWr_length r]; simp

theorem applyWr_other : ∀ (wr : List (Nat × Blk)) (s : Sto) (t : Nat), (∀ k, (t, k) ∉ wr) → (applyWr wr s)[t]? = s[t]?
  | [], s, t, _ => rfl
  | (u, b) :: r, s, t, h => by
    rw [applyWr, applyWr_other r _ t (fun k hk => h k (by simp [hk]))]
    have : u ≠ t := fun e => h b (by rw [e]; simp)
    rw [List.getElem?_set_ne this]

/-- At most one block is written by an operation. -/
def XR.one : XR → Prop
  | .loc r => r.wr = [] ∨ ∃ p, r.wr = [p]
  | .shr .. => True

section
variable {F : Tab} {rec : Task → Option Out} {ops : List XOper} {S : Nat → St} {X : Nat → Option XR}

def W (X : Nat → Option XR) (i t : Nat) : Prop :=
  match X i with
  | some (.loc r) => ∃ k, (t, k) ∈ r.wr
  | some (.shr ..) => True
  | none => False

def FR (X : Nat → Option XR) (i t : Nat) : Prop :=
  match X i with
  | some (.loc r) => t ∈ r.fr
  | some (.shr _ _ z) => t ∈ z
  | none => False

/-- What a block holds, with some of the operations done. -/
def Cur (S : Nat → St) (X : Nat → Option XR) (n : Nat) (done : Nat → Prop) (t : Nat) (k : Blk) : Prop :=
  ∃ m, m ≤ n ∧ (∀ i, i < n → W X i t → (done i ↔ i < m)) ∧ (∀ c, c < n → (S c).sto.length ≤ t → t < (S (c + 1)).sto.length → c < m) ∧ (S m).sto[t]? = some k

theorem shr_len {e : Env} {sto : Sto} {fz : List Nat} {op : XOp} {v : PV} {s : Sto} {z : List Nat} (h : evX F rec e sto fz op = some (.shr v s z)) : sto.length ≤ s.length ∧ ∀ t, t ∈ fz → t ∈ z := by
  have key : ∀ {f : FuncId} {args : List PV}, callShared rec f args sto fz = some (.shr v s z) → sto.length ≤ s.length ∧ ∀ t, t ∈ fz → t ∈ z := by
    intro f args h
    unfold callShared at h
    split at h
    · split at h
      · rename_i hc
        simp only [Bool.and_eq_true, Nat.ble_eq, List.all_eq_true] at hc
        simp only [Option.some.injEq, XR.shr.injEq] at h
        obtain ⟨rfl, rfl, rfl⟩ := h
        exact ⟨hc.1, fun t ht => has_iff.1 (hc.2 t ht)⟩
      · cases h
    · cases h
  cases op with
  | call m f args =>
    cases m with
    | pur => simp [evX] at h
    | own => simp [evX] at h
    | shr => exact key h
  | callv x args =>
    simp only [evX] at h
    split at h
    · split at h
      · exact key h
      · simp at h
    · cases h
  | _ => simp [evX] at h

theorem Run.len_le (hr : Run F rec ops S X) {i : Nat} (hi : i < ops.length) : (S i).sto.length ≤ (S (i + 1)).sto.length := by
  rcases hr.steps i _ (List.getElem?_eq_getElem hi) with ⟨_, x, hx, _, _, hn⟩ | ⟨_, _, hn⟩
  · rw [hn]
    cases x with
    | loc r => simp [XR.next, addN_eq, applyWr_length]
    | shr v s z => exact (shr_len hx).1
  · rw [hn]; exact Nat.le_refl _

theorem Run.len_mono (hr : Run F rec ops S X) {i j : Nat} (hij : i ≤ j) (hj : j ≤ ops.length) : (S i).sto.length ≤ (S j).sto.length := by
  induction j with
  | zero => have : i = 0 := by omega
            subst this; exact Nat.le_refl _
  | succ j ih =>
    rcases Nat.eq_or_lt_of_le hij with h | h
    · subst h; exact Nat.le_refl _
    · exact Nat.le_trans (ih (by omega) (by omega)) (hr.len_le (by omega))

theorem Run.same (hr : Run F rec ops S X) {i t : Nat} (hi : i < ops.length) (hw : ¬ W X i t) (ht : t < (S i).sto.length) : (S (i + 1)).sto[t]? = (S i).sto[t]? := by
  rcases hr.steps i _ (List.getElem?_eq_getElem hi) with ⟨_, x, hx, _, hX, hn⟩ | ⟨_, _, hn⟩
  · rw [hn]
    cases x with
    | loc r =>
      simp only [XR.next, addN_eq]
      rw [List.getElem?_append_left (by rw [applyWr_length]; exact ht)]
      exact applyWr_other _ _ _ fun k hk => hw (by unfold W; rw [hX]; exact ⟨k, hk⟩)
    | shr v s z => exact absurd (by unfold W; rw [hX]; trivial) hw
  · rw [hn]

theorem Run.same_to (hr : Run F rec ops S X) {m m' t : Nat} (hm : m ≤ m') (hm' : m' ≤ ops.length) (hw : ∀ i, m ≤ i → i < m' → ¬ W X i t) (ht : t < (S m).sto.length) : (S m').sto[t]? = (S m).sto[t]? := by
  induction m' with
  | zero => have : m = 0 := by omega
            subst this; rfl
  | succ j ih =>
    rcases Nat.eq_or_lt_of_le hm with h | h
    · subst h; rfl
    · rw [hr.same (by omega) (hw j (by omega) (by omega)) (Nat.lt_of_lt_of_le ht (hr.len_mono (by omega) (by omega)))]
      exact ih (by omega) (by omega) fun i h1 h2 => hw i h1 (by omega)

theorem lt_of_get {α : Type} {l : List α} {i : Nat} {x : α} (h : l[i]? = some x) : i < l.length := (List.getElem?_eq_some_iff.1 h).1

theorem Cur.unique (hr : Run F rec ops S X) {done : Nat → Prop} {t : Nat} {k k' : Blk} (h : Cur S X ops.length done t k) (h' : Cur S X ops.length done t k') : k = k' := by
  obtain ⟨m, hm, hw, hc, hs⟩ := h
  obtain ⟨m', hm', hw', hc', hs'⟩ := h'
  rcases Nat.le_total m m' with h | h
  · have := hr.same_to h hm' (fun i h1 h2 hW => by
      have a := hw i (by omega) hW
      have b := hw' i (by omega) hW
      have := a.1 (b.2 h2); omega) (lt_of_get hs)
    rw [hs, hs'] at this
    exact (Option.some.inj this).symm
  · have := hr.same_to h hm (fun i h1 h2 hW => by
      have a := hw i (by omega) hW
      have b := hw' i (by omega) hW
      have := b.1 (a.2 h2); omega) (lt_of_get hs')
    rw [hs, hs'] at this
    exact Option.some.inj this

/-- Temporaries: a slot that is not written keeps its value. -/
theorem Run.env_same (hr : Run F rec ops S X) {i t : Nat} (hi : i < ops.length) (hd : (ops[i]).dst ≠ some t) : lk t (S (i + 1)).env = lk t (S i).env := by
  have key : ∀ (d : Option Nat) (v : PV) (e : Env), d ≠ some t → lk t (putEnv d v e) = lk t e := by
    intro d v e h
    cases d with
    | none => rfl
    | some s =>
      simp only [putEnv]
      rw [lk_cons, if_neg (fun e => h (by rw [e]))]
  rcases hr.steps i _ (List.getElem?_eq_getElem hi) with ⟨_, x, hx, _, hX, hn⟩ | ⟨_, _, hn⟩
  · rw [hn]
    cases x with
    | loc r => exact key _ _ _ hd
    | shr v s z => exact key _ _ _ hd
  · rw [hn]; exact key _ _ _ hd

theorem Run.env_to (hr : Run F rec ops S X) {m m' t : Nat} (hm : m ≤ m') (hm' : m' ≤ ops.length) (hd : ∀ i (hi : i < ops.length), m ≤ i → i < m' → (ops[i]).dst ≠ some t) : lk t (S m').env = lk t (S m).env := by
  induction m' with
  | zero => have : m = 0 := by omega
            subst this; rfl
  | succ j ih =>
    rcases Nat.eq_or_lt_of_le hm with h | h
    · subst h; rfl
    · rw [hr.env_same (by omega) (hd j (by omega) (by omega) (by omega))]
      exact ih (by omega) (by omega) fun i hi h1 h2 => hd i hi h1 (by omega)

end
end Go.Vm
