/- A region: a call that works on the blocks themselves, and a skipped operation. -/
import Derived.Test.YtohmmcfniijjkaaMVmStep
namespace Go.Vm

section
variable {F : Tab} {rec : Task → Option Out} {ops : List XOper} {S : Nat → St} {X : Nat → Option XR} {bef : Nat → Nat → Prop} {im0 : Im} {loc0 : Loc} {w0 : World} {nt : Nat}
  {done : Nat → Prop} {im : Im} {loc : Loc} {a : Act} {w : World} {i : Nat}

theorem W_shr {v : PV} {s : Sto} {z : List Nat} (hX : X i = some (.shr v s z)) (t : Nat) : W X i t := by unfold W; rw [hX]; trivial

theorem touches_of_W {j t : Nat} (h : W X j t) : touches X j := by
  unfold W at h; unfold touches
  cases hX : X j with
  | none => rw [hX] at h; exact h.elim
  | some x =>
    rw [hX] at h
    cases x with
    | loc r =>
      obtain ⟨k, hk⟩ := h
      exact .inr (.inr (.inl (by intro e; rw [e] at hk; cases hk)))
    | shr v s z => trivial

/-- The memory where such a call begins. -/
theorem Inv.sr (hr : Run F rec ops S X) (ho : Ord ops S X bef) (hv : Inv ops S X im0 loc0 w0 nt done im loc a w) (hp : Place ops bef done i) {v : PV} {s : Sto} {z : List Nat} (hX : X i = some (.shr v s z)) :
    SR im loc (S i).sto (S i).fz w where
  im_ok := hv.im_ok
  blk := fun t li hl => by
    obtain ⟨k, hc, hb⟩ := hv.tok t li hl
    exact ⟨k, hv.cur hr ho hp hl (.inr (W_shr hX t)) hc, hb⟩
  excl := fun t u li lj k k' hl hl' hs hs' h h' hb => by
    obtain ⟨k1, hc1, _⟩ := hv.tok t li hl
    obtain ⟨k2, hc2, _⟩ := hv.tok u lj hl'
    have e1 := hv.cur hr ho hp hl (.inr (W_shr hX t)) hc1
    have e2 := hv.cur hr ho hp hl' (.inr (W_shr hX u)) hc2
    rw [hs] at e1; injection e1 with e1; subst e1
    rw [hs'] at e2; injection e2 with e2; subst e2
    exact hv.excl t u li lj _ _ hl hl' hc1 hc2 h h' hb
  free := fun t li k hl hs h hz => by
    obtain ⟨k1, hc1, _⟩ := hv.tok t li hl
    have e1 := hv.cur hr ho hp hl (.inr (W_shr hX t)) hc1
    rw [hs] at e1; injection e1 with e1; subst e1
    obtain ⟨h0, h1⟩ := Inv.not_frozen hr ho hp (W_shr hX t) (has_false.1 hz)
    exact hv.free t li _ hl hc1 h h0 h1

theorem Inv.put_tm {S : Nat → St} (ho : Ord ops S X bef) (hp : Place ops bef done i) {x : XOper} (hx : ops[i]? = some x) {v : PV} {v' : Value} {im' : Im} {loc' : Loc}
    (hv : Inv ops S X im0 loc0 w0 nt done im loc a w) (hi : ImLe im im') (hl : LocLe loc loc') (hS : (S (i + 1)).env = putEnv x.dst v (S i).env) (hvr : VR im' loc' v v') (hdst : ∀ d, x.dst = some d → d < nt) :
    ∀ t, ∃ m, m ≤ ops.length ∧ (∀ j y, ops[j]? = some y → y.dst = some t → (plus done i j ↔ j < m)) ∧ VR im' loc' (lk t (S m).env) ((a.put x.dst v').tmps.getD t Go.undef) := by
  intro t
  have hin := hp.lt
  by_cases hd : x.dst = some t
  · refine ⟨i + 1, hin, fun j y hy hyd => ?_, ?_⟩
    · rcases Nat.lt_trichotomy j i with h | h | h
      · exact ⟨fun _ => by omega, fun _ => .inl (hp.pre j (lt_of_get hy) (ho.slot1 j i t y x h hy hx hyd (.inr hd)))⟩
      · subst h; exact ⟨fun _ => by omega, fun _ => .inr rfl⟩
      · refine ⟨fun hdj => ?_, fun h' => by omega⟩
        rcases hdj with hdj | hdj
        · exact absurd hdj (hp.later (lt_of_get hy) (ho.slot1 i j t x y h hx hy hd (.inr hyd)))
        · omega
    · rw [hS]
      simp only [hd, putEnv, lk_cons, if_true, Act.put]
      have := hdst t hd
      simp [hv.nts, this, hvr]
  · obtain ⟨m, hm, h1, h2⟩ := hv.tm t
    refine ⟨m, hm, fun j y hy hyd => ?_, ?_⟩
    · have hne : j ≠ i := by intro e; subst e; rw [hx] at hy; injection hy with hy; subst hy; exact hd hyd
      have := h1 j y hy hyd
      exact ⟨fun hdj => this.1 (hdj.resolve_right hne), fun h => .inl (this.2 h)⟩
    · have := h2.mono hi hl
      cases hxd : x.dst with
      | none => simpa [Act.put] using this
      | some d =>
        have hne : d ≠ t := fun e => hd (by rw [hxd, e])
        simpa [Act.put, Array.getElem?_setIfInBounds, hne] using this

theorem put_defers (a : Act) (d : Option Nat) (v : Value) : (a.put d v).defers = a.defers := by cases d <;> rfl
theorem put_size (a : Act) (d : Option Nat) (v : Value) : (a.put d v).tmps.size = a.tmps.size := by cases d <;> simp [Act.put]

theorem Inv.step_shr (hr : Run F rec ops S X) (ho : Ord ops S X bef) (hv : Inv ops S X im0 loc0 w0 nt done im loc a w) (hp : Place ops bef done i) {x : XOper} (hx : ops[i]? = some x) {v : PV} {s : Sto} {z : List Nat}
    (hX : X i = some (.shr v s z)) (hS : S (i + 1) = (XR.shr v s z).next x.dst (S i)) {v' : Value} {im' : Im} {loc' : Loc} {w' : World} (hf : FPost im loc (S i).sto w v s z im' loc' w' v')
    (hdst : ∀ d, x.dst = some d → d < nt) : Inv ops S X im0 loc0 w0 nt (plus done i) im' loc' (a.put x.dst v') w' := by
  have hin := hp.lt
  have hsto : (S (i + 1)).sto = s := by rw [hS]; rfl
  have cur0 : ∀ t li, loc t = some li → ∀ k, (S i).sto[t]? = some k → Cur S X ops.length done t k := by
    intro t li hl k hs
    obtain ⟨k1, hc1, _⟩ := hv.tok t li hl
    have e1 := hv.cur hr ho hp hl (.inr (W_shr hX t)) hc1
    rw [hs] at e1; injection e1 with e1; subst e1
    exact hc1
  have cur1 : ∀ t k, s[t]? = some k → Cur S X ops.length (plus done i) t k := by
    intro t k hs
    refine ⟨i + 1, hin, fun j hj hWj => ?_, fun c hc h1 h2 => ?_, by rw [hsto]; exact hs⟩
    · rcases Nat.lt_trichotomy j i with h | h | h
      · exact ⟨fun _ => by omega, fun _ => .inl (hp.pre j hj (ho.bar j i h hin (.inr ⟨touches_of_W hWj, ⟨v, s, z, hX⟩⟩)))⟩
      · subst h; exact ⟨fun _ => by omega, fun _ => .inr rfl⟩
      · refine ⟨fun hd => ?_, fun h' => by omega⟩
        rcases hd with hd | hd
        · exact absurd hd (hp.later hj (ho.bar i j h hj (.inl ⟨⟨v, s, z, hX⟩, touches_of_W hWj⟩)))
        · omega
    · rcases Nat.lt_or_ge c (i + 1) with h | h
      · exact h
      · have := hr.len_mono (show i + 1 ≤ c by omega) (by omega)
        have := lt_of_get hs
        rw [hsto] at *; omega
  have cur2 : ∀ t li, loc' t = some li → ∀ k, Cur S X ops.length (plus done i) t k → s[t]? = some k := by
    intro t li hl k hc
    obtain ⟨k1, h1, _⟩ := hf.sr.blk t li hl
    have := hc.unique hr (cur1 t k1 h1)
    subst this; exact h1
  refine {
    tm := Inv.put_tm ho hp hx hv hf.imle hf.locle (by rw [hS]; rfl) hf.vr hdst
    im_ok := hf.sr.im_ok
    tok := fun t li hl => by
      obtain ⟨k, h1, h2⟩ := hf.sr.blk t li hl
      exact ⟨k, cur1 t k h1, h2⟩
    excl := fun t u li lj k k' hl hl' hc hc' hs hs' hb => hf.sr.excl t u li lj k k' hl hl' (cur2 t li hl k hc) (cur2 u lj hl' k' hc') hs hs' hb
    free := fun t li k hl hc hs h0 hfr => by
      refine hf.sr.free t li k hl (cur2 t li hl k hc) hs (has_false.2 ?_)
      have := hfr i hin (.inr rfl)
      unfold FR at this; rw [hX] at this
      exact this
    fresh := fun j hj hnd t h1 h2 => ?_
    imle := hv.imle.trans hf.imle
    locle := hv.locle.trans hf.locle
    os := hf.os.trans hv.os
    tape := hf.tape.trans hv.tape
    output := hf.output.trans hv.output
    size := Nat.le_trans hv.size hf.size
    frame := fun b hb hh => ?_
    imnew := fun b o hb => ?_
    locs := fun t li hl => ?_
    own := fun t li k hl hc hs => ?_
    defers := by rw [put_defers]; exact hv.defers
    nts := by rw [put_size]; exact hv.nts }
  · have hji : j ≠ i := fun e => hnd (.inr e)
    have hndj : ¬ done j := fun h => hnd (.inl h)
    cases hl : loc' t with
    | none => rfl
    | some li =>
      exfalso
      obtain ⟨k, hk, _⟩ := hf.sr.blk t li hl
      have hlt := lt_of_get hk
      rcases hf.locs t li hl with h | h
      · rw [hv.fresh j hj hndj t h1 h2] at h; cases h
      · rcases Nat.lt_or_gt_of_ne hji with h' | h'
        · have := hr.len_mono (show j + 1 ≤ i by omega) (by omega); omega
        · have := hr.len_mono (show i + 1 ≤ j by omega) (by omega)
          rw [hsto] at this; omega
  · rw [hf.frame b (Nat.lt_of_lt_of_le hb hv.size) fun t li k hl hs hsol hbb => ?_]
    · exact hv.frame b hb hh
    · rcases hv.own t li k hl (cur0 t li hl k hs) hsol with h | ⟨u, lu, ku, g1, g2, g3, g4⟩
      · omega
      · exact hh u lu ku g1 g2 g3 (by omega)
  · rcases hf.imnew b o hb with h | h | ⟨t, li, k, h1, h2, h3, h4⟩
    · exact hv.imnew b o h
    · exact .inr (.inl (Nat.le_trans hv.size h))
    · rcases hv.own t li k h1 (cur0 t li h1 k h2) h3 with h | ⟨u, lu, ku, g1, g2, g3, g4⟩
      · exact .inr (.inl (by omega))
      · exact .inr (.inr ⟨u, lu, ku, g1, g2, g3, by omega⟩)
  · rcases hf.locs t li hl with h | h
    · exact hv.locs t li h
    · exact .inr (Nat.le_trans (hr.len_mono (Nat.zero_le _) (by omega)) h)
  · rcases hf.own t li k hl (cur2 t li hl k hc) hs with h | ⟨u, lu, ku, h1, h2, h3, h4⟩
    · exact .inl (Nat.le_trans hv.size h)
    · rcases hv.own u lu ku h1 (cur0 u lu h1 ku h2) h3 with h | ⟨u', lu', ku', g1, g2, g3, g4⟩
      · exact .inl (by omega)
      · exact .inr ⟨u', lu', ku', g1, g2, g3, by omega⟩

theorem Inv.step_skip (hr : Run F rec ops S X) (ho : Ord ops S X bef) (hv : Inv ops S X im0 loc0 w0 nt done im loc a w) (hp : Place ops bef done i) {x : XOper} (hx : ops[i]? = some x)
    (hX : X i = none) (hS : S (i + 1) = { S i with env := putEnv x.dst .nul (S i).env }) (hdst : ∀ d, x.dst = some d → d < nt) : Inv ops S X im0 loc0 w0 nt (plus done i) im loc (a.put x.dst Go.undef) w := by
  have hin := hp.lt
  have hnW : ∀ t, ¬ W X i t := fun t h => by unfold W at h; rw [hX] at h; exact h
  have hsto : (S (i + 1)).sto = (S i).sto := by rw [hS]
  have cur1 : ∀ t k, Cur S X ops.length done t k → Cur S X ops.length (plus done i) t k := by
    intro t k ⟨m, hm, h1, h2, h3⟩
    refine ⟨m, hm, fun j hj hWj => ?_, h2, h3⟩
    have hne : j ≠ i := fun e => hnW t (e ▸ hWj)
    have := h1 j hj hWj
    exact ⟨fun hd => this.1 (hd.resolve_right hne), fun h => .inl (this.2 h)⟩
  have cur2 : ∀ t k, Cur S X ops.length (plus done i) t k → Cur S X ops.length done t k := by
    intro t k ⟨m, hm, h1, h2, h3⟩
    refine ⟨m, hm, fun j hj hWj => ?_, h2, h3⟩
    have hne : j ≠ i := fun e => hnW t (e ▸ hWj)
    have := h1 j hj hWj
    exact ⟨fun hd => this.1 (.inl hd), fun h => (this.2 h).resolve_right hne⟩
  refine {
    tm := Inv.put_tm ho hp hx hv (.refl _) (.refl _) (by rw [hS]) .nul hdst
    im_ok := hv.im_ok
    tok := fun t li hl => let ⟨k, h1, h2⟩ := hv.tok t li hl; ⟨k, cur1 t k h1, h2⟩
    excl := fun t u li lj k k' hl hl' hc hc' hs hs' hb => hv.excl t u li lj k k' hl hl' (cur2 t k hc) (cur2 u k' hc') hs hs' hb
    free := fun t li k hl hc hs h0 hfr => hv.free t li k hl (cur2 t k hc) hs h0 fun j hj hd => hfr j hj (.inl hd)
    fresh := fun j hj hnd t h1 h2 => hv.fresh j hj (fun h => hnd (.inl h)) t h1 h2
    imle := hv.imle
    locle := hv.locle
    os := hv.os
    tape := hv.tape
    output := hv.output
    size := hv.size
    frame := hv.frame
    imnew := hv.imnew
    locs := hv.locs
    own := fun t li k hl hc hs => hv.own t li k hl (cur2 t k hc) hs
    defers := by rw [put_defers]; exact hv.defers
    nts := by rw [put_size]; exact hv.nts }

/-- Where a region begins. -/
theorem Inv.start {st : St} (h0 : S 0 = st) (hsr : SR im0 loc0 st.sto st.fz w0) (her : ER im0 loc0 st.env a.tmps) (hd : a.defers = []) (hn : a.tmps.size = nt) (hr : Run F rec ops S X) :
    Inv ops S X im0 loc0 w0 nt (fun _ => False) im0 loc0 a w0 := by
  subst h0
  have hlt : ∀ t li, loc0 t = some li → t < (S 0).sto.length := fun t li hl => let ⟨k, h, _⟩ := hsr.blk t li hl; lt_of_get h
  have cur : ∀ t li k, loc0 t = some li → Cur S X ops.length (fun _ => False) t k → (S 0).sto[t]? = some k := by
    intro t li k hl ⟨m, hm, h1, h2, h3⟩
    rw [← hr.same_to (Nat.zero_le m) hm (fun j _ hj hW => (h1 j (by omega) hW).2 hj) (hlt t li hl)]
    exact h3
  exact {
    tm := fun t => ⟨0, Nat.zero_le _, fun j y _ _ => ⟨fun h => h.elim, fun h => by omega⟩, her t⟩
    im_ok := hsr.im_ok
    tok := fun t li hl => by
      obtain ⟨k, h1, h2⟩ := hsr.blk t li hl
      refine ⟨k, ⟨0, Nat.zero_le _, fun j _ _ => ⟨fun h => h.elim, fun h => by omega⟩, fun c hc h3 h4 => ?_, h1⟩, h2⟩
      have := hlt t li hl
      have := hr.len_mono (Nat.zero_le c) (by omega)
      omega
    excl := fun t u li lj k k' hl hl' hc hc' => hsr.excl t u li lj k k' hl hl' (cur t li k hl hc) (cur u lj k' hl' hc')
    free := fun t li k hl hc hs hz _ => hsr.free t li k hl (cur t li k hl hc) hs (has_false.2 hz)
    fresh := fun j hj _ t h1 h2 => by
      cases hl : loc0 t with
      | none => rfl
      | some li =>
        have := hlt t li hl
        have := hr.len_mono (Nat.zero_le j) (by omega)
        omega
    imle := .refl _
    locle := .refl _
    os := rfl
    tape := rfl
    output := rfl
    size := Nat.le_refl _
    frame := fun _ _ _ => rfl
    imnew := fun _ _ h => .inl h
    locs := fun _ _ h => .inl h
    own := fun t li k hl hc hs => .inr ⟨t, li, k, hl, cur t li k hl hc, hs, rfl⟩
    defers := hd
    nts := hn }

/-- What a stretch of a function's code keeps, and what it leaves. -/
structure Kept (im0 : Im) (loc0 : Loc) (sto0 : Sto) (w0 : World) (st : St) (im : Im) (loc : Loc) (w : World) : Prop where
  sr : SR im loc st.sto st.fz w
  imle : ImLe im0 im
  locle : LocLe loc0 loc
  os : w.os = w0.os
  tape : w.tape = w0.tape
  output : w.output = w0.output
  size : w0.heap.size ≤ w.heap.size
  frame : ∀ b, b < w0.heap.size → (∀ t li k, loc0 t = some li → sto0[t]? = some k → k.solid = true → li.blk ≠ b) → w.heap[b]? = w0.heap[b]?
  imnew : ∀ b o, im b = some o → im0 b = some o ∨ w0.heap.size ≤ b ∨ ∃ t li k, loc0 t = some li ∧ sto0[t]? = some k ∧ k.solid = true ∧ li.blk = b
  locs : ∀ t li, loc t = some li → loc0 t = some li ∨ sto0.length ≤ t
  own : ∀ t li k, loc t = some li → st.sto[t]? = some k → k.solid = true → (w0.heap.size ≤ li.blk ∨ ∃ u lu ku, loc0 u = some lu ∧ sto0[u]? = some ku ∧ ku.solid = true ∧ lu.blk = li.blk)

theorem Inv.finish (hr : Run F rec ops S X) (hv : Inv ops S X im0 loc0 w0 nt done im loc a w) (hd : ∀ j, j < ops.length → done j) :
    Kept im0 loc0 (S 0).sto w0 (S ops.length) im loc w ∧ ER im loc (S ops.length).env a.tmps ∧ a.defers = [] ∧ a.tmps.size = nt := by
  have cur : ∀ t k, Cur S X ops.length done t k → (S ops.length).sto[t]? = some k := by
    intro t k ⟨m, hm, h1, h2, h3⟩
    rw [hr.same_to hm (Nat.le_refl _) (fun j h4 h5 hW => by have := (h1 j h5 hW).1 (hd j h5); omega) (lt_of_get h3)]
    exact h3
  have cur' : ∀ t li k, loc t = some li → (S ops.length).sto[t]? = some k → Cur S X ops.length done t k := by
    intro t li k hl hs
    obtain ⟨k1, hc, _⟩ := hv.tok t li hl
    have := cur t k1 hc
    rw [hs] at this; injection this with this; subst this; exact hc
  refine ⟨{
    sr := { im_ok := hv.im_ok
            blk := fun t li hl => let ⟨k, h1, h2⟩ := hv.tok t li hl; ⟨k, cur t k h1, h2⟩
            excl := fun t u li lj k k' hl hl' hs hs' => hv.excl t u li lj k k' hl hl' (cur' t li k hl hs) (cur' u lj k' hl' hs')
            free := fun t li k hl hs hsol hz => by
              have hz := has_false.1 hz
              refine hv.free t li k hl (cur' t li k hl hs) hsol (fun h => hz (hr.fz_mono (Nat.zero_le _) (Nat.le_refl _) t h)) fun j hj _ hf => ?_
              exact hz (hr.fz_mono (show j + 1 ≤ ops.length from hj) (Nat.le_refl _) t (hr.fr_fz hj hf)) }
    imle := hv.imle, locle := hv.locle, os := hv.os, tape := hv.tape, output := hv.output, size := hv.size, frame := hv.frame, imnew := hv.imnew, locs := hv.locs
    own := fun t li k hl hs => hv.own t li k hl (cur' t li k hl hs) }, fun t => ?_, hv.defers, hv.nts⟩
  obtain ⟨m, hm, h1, h2⟩ := hv.tm t
  rw [hr.env_to hm (Nat.le_refl _) fun j hj h3 h4 hdst => ?_]
  · exact h2
  · have := (h1 j _ (List.getElem?_eq_getElem hj) hdst).1 (hd j hj); omega

end
end Go.Vm
