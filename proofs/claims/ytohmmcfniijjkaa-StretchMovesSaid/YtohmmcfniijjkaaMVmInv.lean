/- A region: what holds while some of its operations are done, and that one more keeps it. -/
import Derived.Test.YtohmmcfniijjkaaMVmRun
namespace Go.Vm

def uses (x : XOper) : List Nat := (x.op.opds.filterMap fun | .t n => some n | .c _ => none) ++ (match x.guard with | some (s, _) => [s] | none => [])

def chkGuard (ops : Array Oper) : Option (Nat × Bool) → Option (Nat × Bool) → Bool
  | none, none => true
  | some (s, b), some (j, c) => b == c && ((ops[j]?).bind (·.dst)) == some s
  | _, _ => false

def chkOper (P : Program) (prims : FuncId → Bool) (nt : Nat) (ops : Array Oper) (x : XOper) (o : Oper) : Bool :=
  x.dst == o.dst && (match x.dst with | some d => Nat.blt d nt | none => true) && chkGuard ops x.guard o.guard && chkOp P prims o.type x.op o.op

def isShr (X : Nat → Option XR) (i : Nat) : Prop := ∃ v s z, X i = some (.shr v s z)

def touches (X : Nat → Option XR) (i : Nat) : Prop :=
  match X i with
  | some (.loc r) => r.rd ≠ [] ∨ r.fr ≠ [] ∨ r.wr ≠ [] ∨ r.news ≠ []
  | some (.shr ..) => True
  | none => False

/-- What an operation looks at. -/
def A (X : Nat → Option XR) (i t : Nat) : Prop :=
  match X i with
  | some (.loc r) => t ∈ r.rd ∨ t ∈ r.fr
  | _ => False

structure Ord (ops : List XOper) (S : Nat → St) (X : Nat → Option XR) (bef : Nat → Nat → Prop) : Prop where
  slot1 : ∀ (i j t : Nat) (x y : XOper), i < j → ops[i]? = some x → ops[j]? = some y → x.dst = some t → (t ∈ uses y ∨ y.dst = some t) → bef i j
  slot2 : ∀ (i j t : Nat) (x y : XOper), i < j → ops[i]? = some x → ops[j]? = some y → y.dst = some t → t ∈ uses x → bef i j
  tok1 : ∀ i j t, i < j → j < ops.length → W X i t → (A X j t ∨ W X j t) → bef i j
  tok2 : ∀ i j t, i < j → j < ops.length → A X i t → W X j t → bef i j
  tok3 : ∀ i j t, i < j → j < ops.length → ¬ isShr X i → (S i).sto.length ≤ t → t < (S (i + 1)).sto.length → ¬ isShr X j → W X j t → bef i j
  bar : ∀ i j, i < j → j < ops.length → (isShr X i ∧ touches X j ∨ touches X i ∧ isShr X j) → bef i j
  cl : ∀ i t, i < ops.length → ¬ isShr X i → (A X i t ∨ W X i t) → t < (S i).sto.length ∨ ∀ c, i < c → c < ops.length → bef i c

structure Inv (ops : List XOper) (S : Nat → St) (X : Nat → Option XR) (im0 : Im) (loc0 : Loc) (w0 : World) (nt : Nat) (done : Nat → Prop) (im : Im) (loc : Loc) (a : Act) (w : World) : Prop where
  tm : ∀ t, ∃ m, m ≤ ops.length ∧ (∀ i x, ops[i]? = some x → x.dst = some t → (done i ↔ i < m)) ∧ VR im loc (lk t (S m).env) (a.tmps.getD t Go.undef)
  im_ok : ∀ b o, im b = some o → w.heap[b]? = some o
  tok : ∀ t li, loc t = some li → ∃ k, Cur S X ops.length done t k ∧ BR im loc w li k
  excl : ∀ t u li lj k k', loc t = some li → loc u = some lj → Cur S X ops.length done t k → Cur S X ops.length done u k' → k.solid = true → k'.solid = true → li.blk = lj.blk → t = u
  free : ∀ t li k, loc t = some li → Cur S X ops.length done t k → k.solid = true → t ∉ (S 0).fz → (∀ i, i < ops.length → done i → ¬ FR X i t) → im li.blk = none
  fresh : ∀ i, i < ops.length → ¬ done i → ∀ t, (S i).sto.length ≤ t → t < (S (i + 1)).sto.length → loc t = none
  imle : ImLe im0 im
  locle : LocLe loc0 loc
  os : w.os = w0.os
  tape : w.tape = w0.tape
  output : w.output = w0.output
  size : w0.heap.size ≤ w.heap.size
  frame : ∀ b, b < w0.heap.size → (∀ t li k, loc0 t = some li → (S 0).sto[t]? = some k → k.solid = true → li.blk ≠ b) → w.heap[b]? = w0.heap[b]?
  imnew : ∀ b o, im b = some o → im0 b = some o ∨ w0.heap.size ≤ b ∨ ∃ t li k, loc0 t = some li ∧ (S 0).sto[t]? = some k ∧ k.solid = true ∧ li.blk = b
  locs : ∀ t li, loc t = some li → loc0 t = some li ∨ (S 0).sto.length ≤ t
  own : ∀ t li k, loc t = some li → Cur S X ops.length done t k → k.solid = true → (w0.heap.size ≤ li.blk ∨ ∃ u lu ku, loc0 u = some lu ∧ (S 0).sto[u]? = some ku ∧ ku.solid = true ∧ lu.blk = li.blk)
  defers : a.defers = []
  nts : a.tmps.size = nt

/-- One more. -/
def plus (done : Nat → Prop) (i : Nat) : Nat → Prop := fun j => done j ∨ j = i

section
variable {F : Tab} {rec : Task → Option Out} {ops : List XOper} {S : Nat → St} {X : Nat → Option XR} {bef : Nat → Nat → Prop} {im0 : Im} {loc0 : Loc} {w0 : World} {nt : Nat}
  {done : Nat → Prop} {im : Im} {loc : Loc} {a : Act} {w : World} {i : Nat}

/-- What is known of the place that an operation has among the others. -/
structure Place (ops : List XOper) (bef : Nat → Nat → Prop) (done : Nat → Prop) (i : Nat) : Prop where
  lt : i < ops.length
  nd : ¬ done i
  pre : ∀ j, j < ops.length → bef j i → done j
  clo : ∀ k, k < ops.length → done k → ∀ j, j < ops.length → bef j k → done j

theorem Place.later (hp : Place ops bef done i) {k : Nat} (hk : k < ops.length) (h : bef i k) : ¬ done k := fun hd => hp.nd (hp.clo k hk hd i hp.lt h)

/-- A slot that the operation uses holds what the run in the order of the text says. -/
theorem Inv.slot (hr : Run F rec ops S X) (ho : Ord ops S X bef) (hv : Inv ops S X im0 loc0 w0 nt done im loc a w) (hp : Place ops bef done i) {x : XOper} (hx : ops[i]? = some x) {t : Nat} (ht : t ∈ uses x) :
    VR im loc (lk t (S i).env) (a.tmps.getD t Go.undef) := by
  obtain ⟨m, hm, hd, hvr⟩ := hv.tm t
  have hwr : ∀ j y, ops[j]? = some y → y.dst = some t → (done j ↔ j < i) := by
    intro j y hy hyd
    rcases Nat.lt_trichotomy j i with h | h | h
    · exact ⟨fun _ => h, fun _ => hp.pre j (lt_of_get hy) (ho.slot1 j i t y x h hy hx hyd (.inl ht))⟩
    · subst h; exact ⟨fun hd => absurd hd hp.nd, fun h => by omega⟩
    · exact ⟨fun hdj => absurd hdj (hp.later (lt_of_get hy) (ho.slot2 i j t x y h hx hy hyd ht)), fun h' => by omega⟩
  have same : lk t (S i).env = lk t (S m).env := by
    rcases Nat.le_total m i with h | h
    · refine hr.env_to h (Nat.le_of_lt hp.lt) fun j hj h1 h2 hdst => ?_
      have a1 := hd j _ (List.getElem?_eq_getElem hj) hdst
      have a2 := hwr j _ (List.getElem?_eq_getElem hj) hdst
      have := a1.1 (a2.2 h2); omega
    · refine (hr.env_to h hm fun j hj h1 h2 hdst => ?_).symm
      have a1 := hd j _ (List.getElem?_eq_getElem hj) hdst
      have a2 := hwr j _ (List.getElem?_eq_getElem hj) hdst
      have := a2.1 (a1.2 h2); omega
  rw [same]; exact hvr

/-- A block that the operation looks at, or writes, holds what the run in the order of the text says. -/
theorem Inv.cur (hr : Run F rec ops S X) (ho : Ord ops S X bef) (hv : Inv ops S X im0 loc0 w0 nt done im loc a w) (hp : Place ops bef done i) {t : Nat} {li : LI} (hl : loc t = some li)
    (ht : (A X i t ∨ W X i t)) {k : Blk} (hc : Cur S X ops.length done t k) : (S i).sto[t]? = some k := by
  obtain ⟨m, hm, hw, hcr, hs⟩ := hc
  -- created before i
  have hlen : t < (S i).sto.length := by
    rcases Nat.lt_or_ge t (S i).sto.length with h | h
    · exact h
    · exfalso
      -- some operation c from i on made it
      have hmi : i < m := by
        rcases Nat.lt_or_ge i m with h' | h'
        · exact h'
        · have := hr.len_mono h' (Nat.le_of_lt hp.lt); have := lt_of_get hs; omega
      have : ∃ c, i ≤ c ∧ c < m ∧ (S c).sto.length ≤ t ∧ t < (S (c + 1)).sto.length := by
        have hex : ∀ d, i + d ≤ m → t < (S (i + d)).sto.length → ∃ c, i ≤ c ∧ c < i + d ∧ (S c).sto.length ≤ t ∧ t < (S (c + 1)).sto.length := by
          intro d
          induction d with
          | zero => intro _ h2; exact absurd h2 (by simpa using h)
          | succ d ih =>
            intro h1 h2
            rcases Nat.lt_or_ge t (S (i + d)).sto.length with h3 | h3
            · obtain ⟨c, c1, c2, c3, c4⟩ := ih (by omega) h3
              exact ⟨c, c1, by omega, c3, c4⟩
            · exact ⟨i + d, by omega, by omega, h3, h2⟩
        obtain ⟨c, c1, c2, c3, c4⟩ := hex (m - i) (by omega) (by rw [show i + (m - i) = m by omega]; exact lt_of_get hs)
        exact ⟨c, c1, by omega, c3, c4⟩
      obtain ⟨c, c1, c2, c3, c4⟩ := this
      have hcn : c < ops.length := by omega
      have hndc : ¬ done c := by
        intro hdc
        rcases Nat.eq_or_lt_of_le c1 with e | e
        · subst e; exact hp.nd hdc
        · by_cases hsh : isShr X i
          · refine hp.later hcn (ho.bar i c e hcn (.inl ⟨hsh, ?_⟩)) hdc
            rcases hr.steps c _ (List.getElem?_eq_getElem hcn) with ⟨_, x, hx, _, hX, hn⟩ | ⟨_, _, hn⟩
            · unfold touches; rw [hX]
              cases x with
              | loc r =>
                refine .inr (.inr (.inr fun hnil => ?_))
                rw [hn] at c4
                simp [XR.next, addN_eq, applyWr_length, hnil] at c4
                omega
              | shr v s z => trivial
            · rw [hn] at c4; simp at c4; omega
          · rcases ho.cl i t hp.lt hsh ht with h' | h'
            · omega
            · exact hp.later hcn (h' c e hcn) hdc
      have := hv.fresh c hcn hndc t c3 c4
      rw [hl] at this; cases this
  have hwr : ∀ j, j < ops.length → W X j t → (done j ↔ j < i) := by
    intro j hj hW
    rcases Nat.lt_trichotomy j i with h | h | h
    · exact ⟨fun _ => h, fun _ => hp.pre j hj (ho.tok1 j i t h hp.lt hW ht)⟩
    · subst h; exact ⟨fun hd => absurd hd hp.nd, fun h => by omega⟩
    · refine ⟨fun hdj => absurd hdj (hp.later hj ?_), fun h' => by omega⟩
      rcases ht with ht | ht
      · exact ho.tok2 i j t h hj ht hW
      · exact ho.tok1 i j t h hj ht (.inr hW)
  rcases Nat.le_total m i with h | h
  · rw [hr.same_to h (Nat.le_of_lt hp.lt) (fun j h1 h2 hW => by
      have a1 := hw j (by have := hp.lt; omega) hW
      have a2 := hwr j (by have := hp.lt; omega) hW
      have := a1.1 (a2.2 h2); omega) (lt_of_get hs)]
    exact hs
  · rw [← hr.same_to h hm (fun j h1 h2 hW => by
      have a1 := hw j (by omega) hW
      have a2 := hwr j (by omega) hW
      have := a2.1 (a1.2 h2); omega) hlen]
    exact hs

end
end Go.Vm
