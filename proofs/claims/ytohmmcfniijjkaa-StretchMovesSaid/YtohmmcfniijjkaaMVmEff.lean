/- What an operation does to the memory, and the shapes in which it does it. -/
import Derived.Test.YtohmmcfniijjkaaMVmOps1
namespace Go.Vm

structure Eff (im : Im) (loc : Loc) (sto : Sto) (w : World) (r : Res) (im' : Im) (loc' : Loc) (w' : World) : Prop where
  imle : ImLe im im'
  locle : LocLe loc loc'
  im_ok : ∀ b o, im' b = some o → w'.heap[b]? = some o
  imnew : ∀ b o, im' b = some o → im b = some o ∨ w.heap.size ≤ b ∨ ∃ t li k, has r.fr t = true ∧ loc t = some li ∧ sto[t]? = some k ∧ k.solid = true ∧ li.blk = b
  os : w'.os = w.os
  tape : w'.tape = w.tape
  output : w'.output = w.output
  size : w.heap.size ≤ w'.heap.size
  frame : ∀ b, b < w.heap.size → (∀ t k li k0, (t, k) ∈ r.wr → loc t = some li → sto[t]? = some k0 → k0.solid = true → li.blk ≠ b) → w'.heap[b]? = w.heap[b]?
  wrs : ∀ t k, (t, k) ∈ r.wr → k.solid = true → ∃ k0, sto[t]? = some k0 ∧ k0.solid = true
  wr : ∀ t k li, (t, k) ∈ r.wr → loc t = some li → BR im' loc' w' li k
  locnew : ∀ t li, loc' t = some li → loc t = some li ∨ (sto.length ≤ t ∧ t < sto.length + r.news.length)
  news : ∀ (j : Nat) (k : Blk), r.news[j]? = some k → ∃ li, loc' (sto.length + j) = some li ∧ BR im' loc' w' li k ∧
    (k.solid = true → im' li.blk = none ∧ (w.heap.size ≤ li.blk ∨ ∃ t lt k0, (t, Blk.dead) ∈ r.wr ∧ loc t = some lt ∧ sto[t]? = some k0 ∧ k0.solid = true ∧ lt.blk = li.blk))
  distinct : ∀ (i j : Nat) (ki kj : Blk) (li lj : LI), r.news[i]? = some ki → r.news[j]? = some kj → ki.solid = true → kj.solid = true →
    loc' (sto.length + i) = some li → loc' (sto.length + j) = some lj → li.blk = lj.blk → i = j

/-- What is known of the memory where an operation runs. -/
structure Known (im : Im) (loc : Loc) (sto : Sto) (w : World) (r : Res) : Prop where
  im_ok : ∀ b o, im b = some o → w.heap[b]? = some o
  tok : ∀ t, t ∈ r.rd ∨ (∃ k, (t, k) ∈ r.wr) → ∀ li, loc t = some li → ∃ k, sto[t]? = some k ∧ BR im loc w li k
  free : ∀ t k, (t, k) ∈ r.wr → ∀ li k', loc t = some li → sto[t]? = some k' → k'.solid = true → im li.blk = none
  fresh : ∀ j, j < r.news.length → loc (sto.length + j) = none

section
variable {im : Im} {loc : Loc} {sto : Sto} {w : World} {r : Res}

theorem Eff.none (hk : Known im loc sto w r) (hn : r.news = []) (hw : r.wr = []) : Eff im loc sto w r im loc w where
  imle := .refl _
  locle := .refl _
  im_ok := hk.im_ok
  imnew := fun _ _ h => .inl h
  os := rfl
  tape := rfl
  output := rfl
  size := Nat.le_refl _
  frame := fun _ _ _ => rfl
  wrs := fun t k h => by rw [hw] at h; cases h
  wr := fun t k li h => by rw [hw] at h; cases h
  locnew := fun _ _ h => .inl h
  news := fun j k h => by rw [hn] at h; simp at h
  distinct := fun i j ki kj li lj h => by rw [hn] at h; simp at h

def Loc.set (loc : Loc) (t : Nat) (li : LI) : Loc := fun u => if u = t then some li else loc u

theorem Loc.set_same (loc : Loc) (t : Nat) (li : LI) : loc.set t li t = some li := by simp [Loc.set]
theorem Loc.le_set {loc : Loc} {t : Nat} (li : LI) (h : loc t = Option.none) : LocLe loc (loc.set t li) := by
  intro u l hu
  unfold Loc.set
  split
  · rename_i e; subst e; rw [h] at hu; cases hu
  · exact hu

/-- One new block. -/
theorem Eff.new (hk : Known im loc sto w r) {k : Blk} {o : Obj} {w' : World} (li : LI) (hn : r.news = [k]) (hw : r.wr = [])
    (hh : w'.heap = w.heap.push o) (ho : w'.os = w.os) (ht : w'.tape = w.tape) (hp : w'.output = w.output) (hl : li.blk = w.heap.size)
    (hb : BR im (loc.set sto.length li) w' li k) : Eff im loc sto w r im (loc.set sto.length li) w' where
  imle := .refl _
  locle := Loc.le_set li (by have := hk.fresh 0 (by simp [hn]); simpa using this)
  im_ok := fun b o h => by
    have h1 := hk.im_ok b o h
    have hlt : b < w.heap.size := by
      rcases Nat.lt_or_ge b w.heap.size with h | h
      · exact h
      · simp [Array.getElem?_eq_none h] at h1
    rw [hh, Array.getElem?_push, if_neg (by omega)]; exact h1
  imnew := fun _ _ h => .inl h
  os := ho
  tape := ht
  output := hp
  size := by rw [hh]; simp
  frame := fun b hb' _ => by rw [hh, Array.getElem?_push, if_neg (by omega)]
  wrs := fun t k h => by rw [hw] at h; cases h
  wr := fun t k li h => by rw [hw] at h; cases h
  locnew := fun t l h => by
    unfold Loc.set at h
    split at h
    · rename_i e; subst e; exact .inr ⟨Nat.le_refl _, by simp [hn]⟩
    · exact .inl h
  news := fun j k' h => by
    rw [hn] at h
    cases j with
    | zero =>
      simp at h; subst h
      refine ⟨li, Loc.set_same _ _ _, hb, fun _ => ⟨?_, .inl (by omega)⟩⟩
      cases hi : im li.blk with
      | none => rfl
      | some o => have := hk.im_ok _ _ hi; rw [hl] at this; simp at this
    | succ j => simp at h
  distinct := fun i j ki kj li lj h1 h2 _ _ _ _ _ => by
    rw [hn] at h1 h2
    cases i <;> cases j <;> simp at h1 h2 <;> rfl

/-- One block of the call's own is written. -/
theorem Eff.write (hk : Known im loc sto w r) {t : Nat} {k k0 : Blk} {o : Obj} {w' : World} {li : LI} (hn : r.news = []) (hw : r.wr = [(t, k)])
    (hl : loc t = some li) (h0 : sto[t]? = some k0) (hs : k0.solid = true)
    (hh : w'.heap = w.heap.setIfInBounds li.blk o) (ho : w'.os = w.os) (ht : w'.tape = w.tape) (hp : w'.output = w.output)
    (hb : BR im loc w' li k) : Eff im loc sto w r im loc w' where
  imle := .refl _
  locle := .refl _
  im_ok := fun b o' h => by
    have h1 := hk.im_ok b o' h
    have hfr := hk.free t k (by simp [hw]) li k0 hl h0 hs
    have hne : li.blk ≠ b := fun e => by rw [e, h] at hfr; cases hfr
    rw [hh, Array.getElem?_setIfInBounds, if_neg hne]; exact h1
  imnew := fun _ _ h => .inl h
  os := ho
  tape := ht
  output := hp
  size := by rw [hh]; simp
  frame := fun b _ h => by
    have hne := h t k li k0 (by simp [hw]) hl h0 hs
    rw [hh, Array.getElem?_setIfInBounds, if_neg hne]
  wrs := fun t' k' hm _ => by
    rw [hw] at hm
    simp at hm
    exact ⟨k0, by rw [hm.1]; exact h0, hs⟩
  wr := fun t' k' li' h h' => by
    rw [hw] at h
    simp at h
    obtain ⟨rfl, rfl⟩ := h
    rw [hl] at h'; injection h' with h'; subst h'
    exact hb
  locnew := fun _ _ h => .inl h
  news := fun j k h => by rw [hn] at h; simp at h
  distinct := fun i j ki kj li lj h => by rw [hn] at h; simp at h

end
end Go.Vm
