/- A pure call, whole. -/
import Derived.Test.YtohmmcfniijjkaaMVmCall2
namespace Go.Vm

/-- What a call of a function leaves. -/
structure FPost (im : Im) (loc : Loc) (sto : Sto) (w : World) (v : PV) (sto' : Sto) (fz' : List Nat) (im' : Im) (loc' : Loc) (w' : World) (u : Value) : Prop where
  imle : ImLe im im'
  locle : LocLe loc loc'
  vr : VR im' loc' v u
  sr : SR im' loc' sto' fz' w'
  os : w'.os = w.os
  tape : w'.tape = w.tape
  output : w'.output = w.output
  size : w.heap.size ≤ w'.heap.size
  frame : ∀ b, b < w.heap.size → (∀ t li k, loc t = some li → sto[t]? = some k → k.solid = true → li.blk ≠ b) → w'.heap[b]? = w.heap[b]?
  imnew : ∀ b o, im' b = some o → im b = some o ∨ w.heap.size ≤ b ∨ ∃ t li k, loc t = some li ∧ sto[t]? = some k ∧ k.solid = true ∧ li.blk = b
  locs : ∀ t li, loc' t = some li → loc t = some li ∨ sto.length ≤ t
  own : ∀ t li k, loc' t = some li → sto'[t]? = some k → k.solid = true → (w.heap.size ≤ li.blk ∨ ∃ u lu ku, loc u = some lu ∧ sto[u]? = some ku ∧ ku.solid = true ∧ lu.blk = li.blk)

/-- A call, entered or answered at once. -/
def CallTo (P : Program) (f : FuncId) (us : Array Value) (w : World) (R : Value → World → Prop) : Prop :=
  (∃ v w', (callFunc f us).run P w = .ok (.value v) w' ∧ R v w') ∨
  ((callFunc f us).run P w = .ok (.enter f us) w ∧ Calls P f us w fun e w' => ∃ v, e = .returned v ∧ R v w')

theorem CallTo.mono {P : Program} {f : FuncId} {us : Array Value} {w : World} {R R' : Value → World → Prop} (h : CallTo P f us w R) (hr : ∀ v w', R v w' → R' v w') : CallTo P f us w R' := by
  rcases h with ⟨v, w', h1, h2⟩ | ⟨h1, h2⟩
  · exact .inl ⟨v, w', h1, hr _ _ h2⟩
  · exact .inr ⟨h1, h2.mono fun e w' ⟨v, he, hv⟩ => ⟨v, he, hr _ _ hv⟩⟩

def FuncOK (P : Program) (rec : Task → Option Out) : Prop :=
  ∀ (f : FuncId) (args : List PV) (sto : Sto) (fz : List Nat) (v : PV) (sto' : Sto) (fz' : List Nat), rec (.func f args sto fz) = some (.func v sto' fz') →
    ∀ (im : Im) (loc : Loc) (w : World) (us : List Value), SR im loc sto fz w → VRL im loc args us →
      CallTo P f ⟨us⟩ w fun u w' => ∃ im' loc', FPost im loc sto w v sto' fz' im' loc' w' u

def PrimOK (P : Program) (f : FuncId) (p : List PV → Option (PV × Sto)) : Prop :=
  ∀ (args : List PV) (v : PV) (news : Sto), p args = some (v, news) → ∀ (im : Im) (w : World) (us : List Value), SR im noLoc [] [] w → VRL im noLoc args us →
    CallTo P f ⟨us⟩ w fun u w' => ∃ im' loc', FPost im noLoc [] w v news [] im' loc' w' u

def PrimsOK (P : Program) (F : Tab) : Prop := ∀ f k p, F f = some (.prim k p) → k = false ∧ PrimOK P f p

section
variable {P : Program} {F : Tab} {rec : Task → Option Out} {im : Im} {loc : Loc} {sto : Sto} {w : World}

theorem SR.empty (h : ∀ b o, im b = some o → w.heap[b]? = some o) : SR im noLoc [] [] w where
  im_ok := h
  blk := fun t li h => by cases h
  excl := fun t u li lj k k' h => by cases h
  free := fun t li k h => by cases h

/-- What comes back of a pure call, kept: without slices. -/
theorem eff_noref {r : Res} {v : PV} {u : Value} {sto1 : Sto} {fz1 : List Nat} {im0 im1 : Im} {loc1 : Loc} {w1 : World} (hk : Known im loc sto w r) (hr : r.v = v) (hn : r.news = []) (hw : r.wr = []) (hno : v.noref = true)
    (hp : FPost im0 noLoc [] w v sto1 fz1 im1 loc1 w1 u) : ∃ im' loc', VR im' loc' r.v u ∧ Eff im loc sto w r im' loc' w1 := by
  refine ⟨im, loc, by rw [hr]; exact noref_ok hno hp.vr, ?_⟩
  have hfr : ∀ b, b < w.heap.size → w1.heap[b]? = w.heap[b]? := fun b hb => hp.frame b hb fun t li k h => by cases h
  exact {
    imle := .refl _, locle := .refl _
    im_ok := fun b o h => by
      have h1 := hk.im_ok b o h
      have hlt : b < w.heap.size := (Array.getElem?_eq_some_iff.1 h1).1
      rw [hfr b hlt]; exact h1
    imnew := fun _ _ h => .inl h
    os := hp.os, tape := hp.tape, output := hp.output, size := hp.size
    frame := fun b hb _ => hfr b hb
    wrs := fun t k h => by rw [hw] at h; cases h
    wr := fun t k li h => by rw [hw] at h; cases h
    locnew := fun _ _ h => .inl h
    news := fun j k h => by rw [hn] at h; simp at h
    distinct := fun i j ki kj li lj h => by rw [hn] at h; simp at h }

/-- .. with slices that nobody writes to. -/
theorem eff_froz {r : Res} {v v' : PV} {u : Value} {sto1 : Sto} {fz1 tk : List Nat} {im1 : Im} {loc1 : Loc} {w1 : World} (hr : r.v = v') (hn : r.news = []) (hw : r.wr = []) (hf : r.fr = tk)
    (hp : FPost (grow im w (blksOf loc sto tk)) noLoc [] w v sto1 fz1 im1 loc1 w1 u) (hi : imF sto1 v = some v') : ∃ im' loc', VR im' loc' r.v u ∧ Eff im loc sto w r im' loc' w1 := by
  have hfr : ∀ b, b < w.heap.size → w1.heap[b]? = w.heap[b]? := fun b hb => hp.frame b hb fun t li k h => by cases h
  let im2 : Im := fun b => match im1 b with
    | some o => some o
    | none => if (blksOf loc1 sto1 (toks noBx v)).contains b && Nat.ble w.heap.size b then w1.heap[b]? else none
  have hle : ImLe im1 im2 := fun b o h => by simp only [im2, h]
  have hok : ∀ b o, im2 b = some o → w1.heap[b]? = some o := by
    intro b o h
    simp only [im2] at h
    split at h
    · rename_i o' ho; injection h with h; subst h; exact hp.sr.im_ok b _ ho
    · split at h
      · exact h
      · cases h
  have hover : ∀ t, t ∈ toks noBx v → Over im1 im2 loc1 sto1 w1 t := by
    intro t ht li hl
    obtain ⟨k, hk1, hbr⟩ := hp.sr.blk t li hl
    refine ⟨k, hk1, hbr, fun hs => ?_⟩
    have hge : w.heap.size ≤ li.blk := by
      rcases hp.own t li k hl hk1 hs with h | ⟨u, lu, ku, h, _⟩
      · exact h
      · cases h
    simp only [im2]
    split
    · rename_i o ho; exact (hp.sr.im_ok _ _ ho).symm
    · rw [if_pos]
      simp only [Bool.and_eq_true, Nat.ble_eq]
      exact ⟨by simpa using mem_blksOf.2 ⟨t, li, k, ht, hl, hk1, hs, rfl⟩, hge⟩
  refine ⟨im2, loc, by rw [hr]; exact imF_ok hle hover hp.vr hi, ?_⟩
  exact {
    imle := (grow_le im w _).trans (hp.imle.trans hle), locle := .refl _
    im_ok := hok
    imnew := fun b o h => by
      simp only [im2] at h
      split at h
      · rename_i o' ho
        injection h with h; subst h
        rcases hp.imnew b _ ho with h1 | h1 | ⟨t, li, k, h1, _⟩
        · rcases grow_new h1 with h2 | h2
          · exact .inl h2
          · obtain ⟨t, li, k, ht, hl, hkk, hs, hb⟩ := mem_blksOf.1 h2
            exact .inr (.inr ⟨t, li, k, by rw [hf]; exact has_iff.2 ht, hl, hkk, hs, hb⟩)
        · exact .inr (.inl h1)
        · cases h1
      · split at h
        · rename_i hc
          simp only [Bool.and_eq_true, Nat.ble_eq] at hc
          exact .inr (.inl hc.2)
        · cases h
    os := hp.os, tape := hp.tape, output := hp.output, size := hp.size
    frame := fun b hb _ => hfr b hb
    wrs := fun t k h => by rw [hw] at h; cases h
    wr := fun t k li h => by rw [hw] at h; cases h
    locnew := fun _ _ h => .inl h
    news := fun j k h => by rw [hn] at h; simp at h
    distinct := fun i j ki kj li lj h => by rw [hn] at h; simp at h }

/-- .. with slices that become blocks of the caller's own. -/
theorem eff_own {r : Res} {v v' : PV} {u : Value} {sto1 : Sto} {fz1 seen' : List Nat} {im0 im1 : Im} {loc1 : Loc} {w1 : World} {news : Sto} (hk : Known im loc sto w r) (hr : r.v = v') (hn : r.news = news) (hw : r.wr = [])
    (hp : FPost im0 noLoc [] w v sto1 fz1 im1 loc1 w1 u) (hi : imO sto1 fz1 sto.length [] v = some (v', news, seen')) : ∃ im' loc', VR im' loc' r.v u ∧ Eff im loc sto w r im' loc' w1 := by
  have hfr : ∀ b, b < w.heap.size → w1.heap[b]? = w.heap[b]? := fun b hb => hp.frame b hb fun t li k h => by cases h
  obtain ⟨lis, ts, h1, h2⟩ := imO_ok (fun t li hl => hp.sr.blk t li hl) hp.vr hi
  let loc2 : Loc := fun t => if t < sto.length then loc t else match lis[t - sto.length]? with
    | some li => some li
    | none => loc t
  have hnew : ∀ (j : Nat) (li : LI), lis[j]? = some li → loc2 (sto.length + j) = some li := by
    intro j li hj
    simp only [loc2]
    rw [if_neg (by omega), show sto.length + j - sto.length = j by omega, hj]
  have hle : LocLe loc loc2 := by
    intro t li hl
    simp only [loc2]
    split
    · exact hl
    · rename_i hlt
      split
      · rename_i l2 hl2
        have hj := (List.getElem?_eq_some_iff.1 hl2).1
        have := hk.fresh (t - sto.length) (by rw [hn, ← h1.len1]; exact hj)
        rw [show sto.length + (t - sto.length) = t by omega, hl] at this
        cases this
      · exact hl
  have hli : ∀ (j : Nat) (k : Blk), news[j]? = some k → ∃ li, lis[j]? = some li := by
    intro j k hj
    have := (List.getElem?_eq_some_iff.1 hj).1
    exact ⟨_, List.getElem?_eq_getElem (by rw [h1.len1]; exact this)⟩
  have hts : ∀ (j : Nat) (k : Blk), news[j]? = some k → k.solid = true → ∃ t, ts[j]? = some (some t) := by
    intro j k hj hs
    have hlt := (List.getElem?_eq_some_iff.1 hj).1
    cases hg : ts[j]? with
    | none => have := List.getElem?_eq_none_iff.1 hg; have := h1.len2; omega
    | some x =>
      cases x with
      | some t => exact ⟨t, rfl⟩
      | none => rw [h1.dum j k hj hg] at hs; cases hs
  refine ⟨im, loc2, by rw [hr]; exact h2 im loc2 hnew, ?_⟩
  exact {
    imle := .refl _, locle := hle
    im_ok := fun b o h => by
      have h1 := hk.im_ok b o h
      have hlt : b < w.heap.size := (Array.getElem?_eq_some_iff.1 h1).1
      rw [hfr b hlt]; exact h1
    imnew := fun _ _ h => .inl h
    os := hp.os, tape := hp.tape, output := hp.output, size := hp.size
    frame := fun b hb _ => hfr b hb
    wrs := fun t k h => by rw [hw] at h; cases h
    wr := fun t k li h => by rw [hw] at h; cases h
    locnew := fun t li h => by
      simp only [loc2] at h
      split at h
      · exact .inl h
      · rename_i hlt
        split at h
        · rename_i l2 hl2
          have hj := (List.getElem?_eq_some_iff.1 hl2).1
          exact .inr ⟨by omega, by rw [hn, ← h1.len1]; omega⟩
        · exact .inl h
    news := fun j k hj => by
      rw [hn] at hj
      obtain ⟨li, hl⟩ := hli j k hj
      obtain ⟨⟨e, rows, rfl⟩, hbr⟩ := h1.br j k li hj hl
      refine ⟨li, hnew j li hl, hbr, fun hs => ?_⟩
      obtain ⟨t, ht⟩ := hts j _ hj hs
      obtain ⟨a1, a2, a3, _, _⟩ := h1.own j _ li t hj hl ht
      have hge : w.heap.size ≤ li.blk := by
        rcases hp.own t li _ a1 a2 hs with h | ⟨u, lu, ku, h, _⟩
        · exact h
        · cases h
      refine ⟨?_, .inl hge⟩
      cases hb : im li.blk with
      | none => rfl
      | some o =>
        have := (Array.getElem?_eq_some_iff.1 (hk.im_ok _ _ hb)).1
        omega
    distinct := fun i j ki kj li lj hi' hj' hsi hsj hli' hlj' hbb => by
      rw [hn] at hi' hj'
      obtain ⟨l1, hl1⟩ := hli i ki hi'
      obtain ⟨l2, hl2⟩ := hli j kj hj'
      have e1 := hnew i l1 hl1
      have e2 := hnew j l2 hl2
      rw [hli'] at e1; rw [hlj'] at e2
      injection e1 with e1; injection e2 with e2
      subst e1 e2
      obtain ⟨t1, ht1⟩ := hts i ki hi' hsi
      obtain ⟨t2, ht2⟩ := hts j kj hj' hsj
      obtain ⟨a1, a2, _⟩ := h1.own i ki li t1 hi' hl1 ht1
      obtain ⟨b1, b2, _⟩ := h1.own j kj lj t2 hj' hl2 ht2
      have := hp.sr.excl t1 t2 li lj ki kj a1 b1 a2 b2 hsi hsj hbb
      subst this
      exact h1.inj i j t1 ht1 ht2 }

theorem callRec_rd {own : Bool} {f : FuncId} {args' : List PV} {tk : List Nat} {r : Res}
    (h : (match rec (.func f args' [] []) with
      | some (.func v s1 z1) =>
        if own then match imO s1 z1 sto.length [] v with
          | some (v', n2, _) => some { v := v', news := n2, rd := tk }
          | none => none
        else if v.noref then some { v, rd := tk }
        else match imF s1 v with
          | some v' => some { v := v', rd := tk, fr := tk }
          | none => none
      | _ => none) = some r) : r.rd = tk := by
  split at h
  · split at h
    · split at h
      · injection h with h; subst h; rfl
      · cases h
    · split at h
      · injection h with h; subst h; rfl
      · split at h
        · injection h with h; subst h; rfl
        · cases h
  · cases h

theorem callRec_sim (hrec : FuncOK P rec) {own : Bool} {f : FuncId} {args' : List PV} {tk : List Nat} {r : Res} {us : List Value}
    (h : (match rec (.func f args' [] []) with
      | some (.func v s1 z1) =>
        if own then match imO s1 z1 sto.length [] v with
          | some (v', n2, _) => some { v := v', news := n2, rd := tk }
          | none => none
        else if v.noref then some { v, rd := tk }
        else match imF s1 v with
          | some v' => some { v := v', rd := tk, fr := tk }
          | none => none
      | _ => none) = some r) (ha : VRL (grow im w (blksOf loc sto tk)) noLoc args' us) (hk : Known im loc sto w r) :
    CallTo P f ⟨us⟩ w fun u w' => ∃ im' loc', VR im' loc' r.v u ∧ Eff im loc sto w r im' loc' w' := by
  cases hr : rec (.func f args' [] []) with
  | none => rw [hr] at h; cases h
  | some o =>
    rw [hr] at h
    cases o with
    | code e st => cases h
    | func v s1 z1 =>
      dsimp only at h
      refine (hrec f args' [] [] v s1 z1 hr _ noLoc w us (SR.empty (grow_ok hk.im_ok)) ha).mono fun u w' hq => ?_
      obtain ⟨im1, loc1, hp⟩ := hq
      split at h
      · cases hio : imO s1 z1 sto.length [] v with
        | none => rw [hio] at h; cases h
        | some q2 =>
          obtain ⟨v', n2, s2⟩ := q2
          rw [hio] at h
          simp only [Option.some.injEq] at h
          subst h
          exact eff_own hk rfl rfl rfl hp hio
      · split at h
        · rename_i hno
          simp only [Option.some.injEq] at h
          subst h
          exact eff_noref hk rfl rfl rfl hno hp
        · cases hif : imF s1 v with
          | none => rw [hif] at h; cases h
          | some v' =>
            rw [hif] at h
            simp only [Option.some.injEq] at h
            subst h
            exact eff_froz rfl rfl rfl rfl hp hif

theorem callPure_sim (hrec : FuncOK P rec) (hprim : PrimsOK P F) {own : Bool} {f : FuncId} {args : List PV} {fz : List Nat} {r : Res} {us : List Value}
    (h : callPure F rec own f args sto fz = some r) (ha : VRL im loc args us) (hk : Known im loc sto w r) :
    CallTo P f ⟨us⟩ w fun u w' => ∃ im' loc', VR im' loc' r.v u ∧ Eff im loc sto w r im' loc' w' := by
  have imok : ∀ (rd : List Nat), (∀ b o, im b = some o → w.heap[b]? = some o) → ∀ b o, grow im w (blksOf loc sto rd) b = some o → w.heap[b]? = some o := fun rd h => grow_ok h
  have hexp : ∀ (args' : List PV), exL sto (exBx sto deep) args = some args' → (∀ t, t ∈ toksL (toksBx sto deep) args → ∀ li, loc t = some li → ∃ k, sto[t]? = some k ∧ BR im loc w li k) → (∀ b o, im b = some o → w.heap[b]? = some o) →
      VRL (grow im w (blksOf loc sto (toksL (toksBx sto deep) args))) noLoc args' us := by
    intro args' hx htok hok
    refine exL_ok (w := w) (grow_le _ _ _) (fun t => exBx_ok (grow_le _ _ _) deep t) (fun t ht li hl => ?_) ha hx
    obtain ⟨k, hk1, hbr⟩ := htok t ht li hl
    exact ⟨k, hk1, hbr, fun hs => grow_at hok (mem_blksOf.2 ⟨t, li, k, ht, hl, hk1, hs, rfl⟩)⟩
  unfold callPure at h
  cases hx : exL sto (exBx sto deep) args with
  | none => rw [hx] at h; cases h
  | some args' =>
    rw [hx] at h
    dsimp only at h
    cases hF : F f with
    | none =>
      rw [hF] at h
      dsimp only at h
      have hrd : r.rd = toksL (toksBx sto deep) args := callRec_rd h
      exact callRec_sim hrec h (hexp args' hx (fun t ht => hk.tok t (.inl (by rw [hrd]; exact ht))) hk.im_ok) hk
    | some en =>
      rw [hF] at h
      cases en with
      | prim kills p =>
        dsimp only at h
        obtain ⟨rfl, hpo⟩ := hprim f kills p hF
        cases hpa : p args' with
        | none => rw [hpa] at h; cases h
        | some q =>
          obtain ⟨v, news⟩ := q
          rw [hpa] at h
          dsimp only at h
          cases hio : imO news [] sto.length [] v with
          | none => rw [hio] at h; cases h
          | some q2 =>
            obtain ⟨v', n2, s2⟩ := q2
            rw [hio] at h
            simp only [Bool.false_eq_true, if_false, Option.some.injEq] at h
            subst h
            refine (hpo args' v news hpa _ w us (SR.empty (imok _ hk.im_ok)) (hexp args' hx (fun t ht => hk.tok t (.inl ht)) hk.im_ok)).mono fun u w' hq => ?_
            obtain ⟨im1, loc1, hp⟩ := hq
            exact eff_own hk rfl rfl rfl hp hio
      | code x =>
        dsimp only at h
        have hrd : r.rd = toksL (toksBx sto deep) args := callRec_rd h
        exact callRec_sim hrec h (hexp args' hx (fun t ht => hk.tok t (.inl (by rw [hrd]; exact ht))) hk.im_ok) hk
end
end Go.Vm
