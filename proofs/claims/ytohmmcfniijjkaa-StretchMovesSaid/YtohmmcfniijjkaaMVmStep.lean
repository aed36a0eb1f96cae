/- A region: one more operation keeps what holds. -/
import Derived.Test.YtohmmcfniijjkaaMVmInv
namespace Go.Vm

theorem BR.mono' {im im' : Im} {loc loc' : Loc} {w w' : World} {li : LI} {k : Blk} (h : BR im loc w li k) (hi : ImLe im im') (hl : LocLe loc loc')
    (hw : k.solid = true → w'.heap[li.blk]? = w.heap[li.blk]?) : BR im' loc' w' li k := by
  cases hs : k.solid with
  | true => exact h.mono hi hl (hw hs)
  | false =>
    cases k with
    | arr e rows =>
      cases rows with
      | nil => exact ⟨h.1, h.2.1, fun hne => absurd rfl hne⟩
      | cons _ _ => cases hs
    | box _ => cases hs
    | map _ => cases hs
    | dead => trivial

section
variable {F : Tab} {rec : Task → Option Out} {ops : List XOper} {S : Nat → St} {X : Nat → Option XR} {bef : Nat → Nat → Prop} {im0 : Im} {loc0 : Loc} {w0 : World} {nt : Nat}
  {done : Nat → Prop} {im : Im} {loc : Loc} {a : Act} {w : World} {i : Nat}

theorem Run.fz_le (hr : Run F rec ops S X) {j : Nat} (hj : j < ops.length) : ∀ t, t ∈ (S j).fz → t ∈ (S (j + 1)).fz := by
  intro t ht
  rcases hr.steps j _ (List.getElem?_eq_getElem hj) with ⟨_, x, hx, _, _, hn⟩ | ⟨_, _, hn⟩
  · rw [hn]
    cases x with
    | loc r => simp only [XR.next]; exact List.mem_append_right _ ht
    | shr v s z => exact (shr_len hx).2 t ht
  · rw [hn]; exact ht

theorem Run.fz_mono (hr : Run F rec ops S X) {m m' : Nat} (h : m ≤ m') (hm : m' ≤ ops.length) : ∀ t, t ∈ (S m).fz → t ∈ (S m').fz := by
  induction m' with
  | zero => have : m = 0 := by omega
            subst this; exact fun _ h => h
  | succ j ih =>
    rcases Nat.eq_or_lt_of_le h with e | e
    · subst e; exact fun _ h => h
    · exact fun t ht => hr.fz_le (by omega) t (ih (by omega) (by omega) t ht)

theorem Run.fr_fz (hr : Run F rec ops S X) {j : Nat} (hj : j < ops.length) {t : Nat} (h : FR X j t) : t ∈ (S (j + 1)).fz := by
  rcases hr.steps j _ (List.getElem?_eq_getElem hj) with ⟨_, x, hx, _, hX, hn⟩ | ⟨_, hX, _⟩
  · rw [hn]
    unfold FR at h; rw [hX] at h
    cases x with
    | loc r => exact List.mem_append_left _ h
    | shr v s z => exact h
  · unfold FR at h; rw [hX] at h; exact h.elim

theorem FR_AW {j t : Nat} (h : FR X j t) : A X j t ∨ W X j t := by
  unfold FR at h; unfold A W
  cases hX : X j with
  | none => rw [hX] at h; exact h.elim
  | some x =>
    rw [hX] at h
    cases x with
    | loc r => exact .inl (.inr h)
    | shr v s z => exact .inr trivial

/-- Nobody who is done has frozen what the operation writes. -/
theorem Inv.not_frozen (hr : Run F rec ops S X) (ho : Ord ops S X bef) (hp : Place ops bef done i) {t : Nat} (hW : W X i t) (hz : t ∉ (S i).fz) :
    t ∉ (S 0).fz ∧ ∀ j, j < ops.length → done j → ¬ FR X j t := by
  refine ⟨fun h => hz (hr.fz_mono (Nat.zero_le _) (Nat.le_of_lt hp.lt) t h), fun j hj hd hf => ?_⟩
  rcases Nat.lt_trichotomy j i with h | h | h
  · exact hz (hr.fz_mono h (Nat.le_of_lt hp.lt) t (hr.fr_fz hj hf))
  · subst h; exact hp.nd hd
  · exact hp.later hj (ho.tok1 i j t h hj hW (FR_AW hf)) hd

theorem Inv.known (hr : Run F rec ops S X) (ho : Ord ops S X bef) (hv : Inv ops S X im0 loc0 w0 nt done im loc a w) (hp : Place ops bef done i) {r : Res} (hX : X i = some (.loc r)) (hok : (XR.loc r).ok (S i).fz = true)
    (hn : (S (i + 1)).sto.length = (S i).sto.length + r.news.length) : Known im loc (S i).sto w r where
  im_ok := hv.im_ok
  tok := fun t ht li hl => by
    obtain ⟨k, hc, hbr⟩ := hv.tok t li hl
    refine ⟨k, hv.cur hr ho hp hl ?_ hc, hbr⟩
    rcases ht with ht | ht
    · exact .inl (by unfold A; rw [hX]; exact .inl ht)
    · exact .inr (by unfold W; rw [hX]; exact ht)
  free := fun t k hm li k' hl hs hsol => by
    have hW : W X i t := by unfold W; rw [hX]; exact ⟨k, hm⟩
    simp only [XR.ok, Bool.and_eq_true, List.all_eq_true, Bool.not_eq_true'] at hok
    have hz : t ∉ (S i).fz := has_false.1 (hok.1 (t, k) hm)
    obtain ⟨h0, h1⟩ := Inv.not_frozen hr ho hp hW hz
    obtain ⟨k2, hc, _⟩ := hv.tok t li hl
    have := hv.cur hr ho hp hl (.inr hW) hc
    rw [hs] at this; injection this with this; subst this
    exact hv.free t li k' hl hc hsol h0 h1
  fresh := fun j hj => hv.fresh i hp.lt hp.nd _ (by omega) (by omega)

theorem Inv.step_loc (hr : Run F rec ops S X) (ho : Ord ops S X bef) (hv : Inv ops S X im0 loc0 w0 nt done im loc a w) (hp : Place ops bef done i) {x : XOper} (hx : ops[i]? = some x) {r : Res} (hX : X i = some (.loc r))
    (hok : (XR.loc r).ok (S i).fz = true) (hS : S (i + 1) = (XR.loc r).next x.dst (S i)) {v' : Value} {im' : Im} {loc' : Loc} {w' : World} (hvr : VR im' loc' r.v v') (he : Eff im loc (S i).sto w r im' loc' w')
    (hdst : ∀ d, x.dst = some d → d < nt) : Inv ops S X im0 loc0 w0 nt (plus done i) im' loc' (a.put x.dst v') w' := by
  have hlen : (S (i + 1)).sto.length = (S i).sto.length + r.news.length := by rw [hS]; simp [XR.next, addN_eq, applyWr_length]
  have hin := hp.lt
  have hone : r.wr.length ≤ 1 := by simp only [XR.ok, Bool.and_eq_true, Nat.ble_eq] at hok; exact hok.2
  have hsto : (S (i + 1)).sto = applyWr r.wr (S i).sto ++ r.news := by rw [hS]; exact addN_eq _ _
  -- what is written
  have wr_at : ∀ t k, (t, k) ∈ r.wr → t < (S i).sto.length → (S (i + 1)).sto[t]? = some k := by
    intro t k hm hlt
    rw [hsto, List.getElem?_append_left (by rw [applyWr_length]; exact hlt)]
    match r.wr, hone, hm with
    | [p], _, hm =>
      have : (t, k) = p := by simpa using hm
      subst this
      simp [applyWr, hlt]
    | p :: q :: l, h, _ => simp at h
  have new_at : ∀ j k, r.news[j]? = some k → (S (i + 1)).sto[(S i).sto.length + j]? = some k := by
    intro j k hj
    rw [hsto, List.getElem?_append_right (by rw [applyWr_length]; omega), applyWr_length, show (S i).sto.length + j - (S i).sto.length = j by omega]
    exact hj
  have wlt : ∀ t li, loc t = some li → W X i t → t < (S i).sto.length := by
    intro t li hl hW
    obtain ⟨k, hc, _⟩ := hv.tok t li hl
    exact lt_of_get (hv.cur hr ho hp hl (.inr hW) hc)
  -- versions behind the operation
  have cur_wr : ∀ t k li, (t, k) ∈ r.wr → loc t = some li → Cur S X ops.length (plus done i) t k := by
    intro t k li hm hl
    have hW : W X i t := by unfold W; rw [hX]; exact ⟨k, hm⟩
    have hlt := wlt t li hl hW
    refine ⟨i + 1, hin, fun j hj hWj => ?_, fun c hc h1 h2 => ?_, wr_at t k hm hlt⟩
    · rcases Nat.lt_trichotomy j i with h | h | h
      · exact ⟨fun _ => by omega, fun _ => .inl (hp.pre j hj (ho.tok1 j i t h hin hWj (.inr hW)))⟩
      · subst h; exact ⟨fun _ => by omega, fun _ => .inr rfl⟩
      · refine ⟨fun hd => ?_, fun h' => by omega⟩
        rcases hd with hd | hd
        · exact absurd hd (hp.later hj (ho.tok1 i j t h hj hW (.inr hWj)))
        · omega
    · rcases Nat.lt_or_ge c (i + 1) with h | h
      · exact h
      · have := hr.len_mono (show i ≤ c by omega) (by omega); omega
  have cur_new : ∀ j k, r.news[j]? = some k → Cur S X ops.length (plus done i) ((S i).sto.length + j) k := by
    intro j k hj
    have hjl := lt_of_get hj
    refine ⟨i + 1, hin, fun q hq hWq => ?_, fun c hc h1 h2 => ?_, new_at j k hj⟩
    · rcases Nat.lt_trichotomy q i with h | h | h
      · refine ⟨fun _ => by omega, fun _ => .inl ?_⟩
        by_cases hs : isShr X q
        · -- a barrier ahead of an operation that makes memory
          refine hp.pre q hq (ho.bar q i h hin (.inl ⟨hs, ?_⟩))
          unfold touches; rw [hX]
          exact .inr (.inr (.inr (by intro e; rw [e] at hj; simp at hj)))
        · rcases ho.cl q _ hq hs (.inr hWq) with h' | h'
          · have := hr.len_mono (show q ≤ i by omega) (by omega); omega
          · exact hp.pre q hq (h' i h hin)
      · subst h; exact ⟨fun _ => by omega, fun _ => .inr rfl⟩
      · refine ⟨fun hd => ?_, fun h' => by omega⟩
        rcases hd with hd | hd
        · exfalso
          by_cases hs : isShr X q
          · refine hp.later hq (ho.bar i q h hq (.inr ⟨?_, hs⟩)) hd
            unfold touches; rw [hX]
            exact .inr (.inr (.inr (by intro e; rw [e] at hj; simp at hj)))
          · exact hp.later hq (ho.tok3 i q _ h hq (by rintro ⟨v, s, z, e⟩; rw [hX] at e; cases e) (by omega) (by omega) hs hWq) hd
        · omega
    · rcases Nat.lt_or_ge c (i + 1) with h | h
      · exact h
      · have := hr.len_mono (show i + 1 ≤ c by omega) (by omega); omega
  have cur_old : ∀ t k, ¬ W X i t → Cur S X ops.length done t k → Cur S X ops.length (plus done i) t k := by
    intro t k hW hc
    obtain ⟨m, hm, h1, h2, h3⟩ := hc
    refine ⟨m, hm, fun j hj hWj => ?_, h2, h3⟩
    have hne : j ≠ i := fun e => hW (e ▸ hWj)
    have := h1 j hj hWj
    exact ⟨fun hd => this.1 (hd.resolve_right hne), fun h => .inl (this.2 h)⟩
  have not_shr : ¬ isShr X i := by rintro ⟨v, s, z, e⟩; rw [hX] at e; cases e
  -- a block that is there behind the operation: a new one, or an old one
  have cases_t : ∀ t li, loc' t = some li → (∃ j k, t = (S i).sto.length + j ∧ r.news[j]? = some k ∧ loc t = none) ∨ loc t = some li := by
    intro t li hl
    rcases he.locnew t li hl with h | ⟨h1, h2⟩
    · exact .inr h
    · refine .inl ⟨t - (S i).sto.length, r.news[t - (S i).sto.length], by omega, List.getElem?_eq_getElem (by omega), ?_⟩
      exact hv.fresh i hin hp.nd t h1 (by omega)
  -- an old one's content
  have old : ∀ t li k, loc t = some li → Cur S X ops.length (plus done i) t k → k.solid = true → ∃ k0, Cur S X ops.length done t k0 ∧ k0.solid = true ∧ BR im loc w li k0 ∧ (¬ W X i t → k0 = k) ∧ (W X i t → (t, k) ∈ r.wr) := by
    intro t li k hl hc hs
    obtain ⟨k0, hc0, hbr⟩ := hv.tok t li hl
    by_cases hW : W X i t
    · have hW2 := hW
      unfold W at hW2; rw [hX] at hW2
      obtain ⟨k2, hm⟩ := hW2
      have e := (cur_wr t k2 li hm hl).unique hr hc
      subst e
      obtain ⟨k3, h3, h4⟩ := he.wrs t k2 hm hs
      have := hv.cur hr ho hp hl (.inr hW) hc0
      rw [h3] at this; injection this with this; subst this
      exact ⟨k3, hc0, h4, hbr, fun h => absurd hW h, fun _ => hm⟩
    · have e := (cur_old t k0 hW hc0).unique hr hc
      subst e
      exact ⟨k0, hc0, hs, hbr, fun _ => rfl, fun h => absurd h hW⟩
  -- a written block, where it holds something, is one that is known
  have wr_cur : ∀ t k li k0, (t, k) ∈ r.wr → loc t = some li → (S i).sto[t]? = some k0 → Cur S X ops.length done t k0 := by
    intro t k li k0 hm hl hs
    obtain ⟨k1, hc1, _⟩ := hv.tok t li hl
    have := hv.cur hr ho hp hl (.inr (by unfold W; rw [hX]; exact ⟨k, hm⟩)) hc1
    rw [hs] at this; injection this with this; subst this
    exact hc1
  have fr_cur : ∀ t li k0, t ∈ r.fr → loc t = some li → (S i).sto[t]? = some k0 → Cur S X ops.length done t k0 := by
    intro t li k0 hm hl hs
    obtain ⟨k1, hc1, _⟩ := hv.tok t li hl
    have := hv.cur hr ho hp hl (.inl (by unfold A; rw [hX]; exact .inr hm)) hc1
    rw [hs] at this; injection this with this; subst this
    exact hc1
  refine {
    tm := fun t => ?_
    im_ok := he.im_ok
    tok := fun t li hl => ?_
    excl := fun t u li lj k k' hl hl' hc hc' hs hs' hb => ?_
    free := fun t li k hl hc hs h0 hf => ?_
    fresh := fun j hj hnd t h1 h2 => ?_
    imle := hv.imle.trans he.imle
    locle := hv.locle.trans he.locle
    os := he.os.trans hv.os
    tape := he.tape.trans hv.tape
    output := he.output.trans hv.output
    size := Nat.le_trans hv.size he.size
    frame := fun b hb hh => ?_
    imnew := fun b o hb => ?_
    locs := fun t li hl => ?_
    own := fun t li k hl hc hs => ?_
    defers := by
      cases hd : x.dst <;> simp [Act.put, hv.defers]
    nts := by
      cases hd : x.dst <;> simp [Act.put, hv.nts] }
  · -- temporaries
    by_cases hd : x.dst = some t
    · refine ⟨i + 1, hin, fun j y hy hyd => ?_, ?_⟩
      · rcases Nat.lt_trichotomy j i with h | h | h
        · exact ⟨fun _ => by omega, fun _ => .inl (hp.pre j (lt_of_get hy) (ho.slot1 j i t y x h hy hx hyd (.inr hd)))⟩
        · subst h; exact ⟨fun _ => by omega, fun _ => .inr rfl⟩
        · refine ⟨fun hdj => ?_, fun h' => by omega⟩
          rcases hdj with hdj | hdj
          · exact absurd hdj (hp.later (lt_of_get hy) (ho.slot1 i j t x y h hx hy hd (.inr hyd)))
          · omega
      · rw [hS]
        simp only [XR.next, hd, putEnv, lk_cons, if_true, Act.put]
        have := hdst t hd
        simp [hv.nts, this, hvr]
    · obtain ⟨m, hm, h1, h2⟩ := hv.tm t
      refine ⟨m, hm, fun j y hy hyd => ?_, ?_⟩
      · have hne : j ≠ i := by intro e; subst e; rw [hx] at hy; injection hy with hy; subst hy; exact hd hyd
        have := h1 j y hy hyd
        exact ⟨fun hdj => this.1 (hdj.resolve_right hne), fun h => .inl (this.2 h)⟩
      · have := h2.mono he.imle he.locle
        cases hxd : x.dst with
        | none => simpa [Act.put] using this
        | some d =>
          have hne : d ≠ t := fun e => hd (by rw [hxd, e])
          simpa [Act.put, Array.getElem?_setIfInBounds, hne] using this
  · -- what the blocks hold
    rcases cases_t t li hl with ⟨j, k, rfl, hj, _⟩ | hlo
    · obtain ⟨li', h1, h2, _⟩ := he.news j k hj
      rw [hl] at h1; injection h1 with h1; subst h1
      exact ⟨k, cur_new j k hj, h2⟩
    · obtain ⟨k0, hc0, hbr⟩ := hv.tok t li hlo
      by_cases hW : W X i t
      · have hW2 := hW
        unfold W at hW2; rw [hX] at hW2
        obtain ⟨k2, hm⟩ := hW2
        exact ⟨k2, cur_wr t k2 li hm hlo, he.wr t k2 li hm hlo⟩
      · refine ⟨k0, cur_old t k0 hW hc0, hbr.mono' he.imle he.locle fun hs => ?_⟩
        refine he.frame _ (hbr.lt hs) fun t2 k2 l2 k3 hm hl2 hs3 hsol hbb => ?_
        have := hv.excl t2 t l2 li k3 k0 hl2 hlo (wr_cur t2 k2 l2 k3 hm hl2 hs3) hc0 hsol hs hbb
        subst this
        exact hW (by unfold W; rw [hX]; exact ⟨k2, hm⟩)
  · -- each in a block of its own
    have newold : ∀ t u li lj k k', (∃ j k, t = (S i).sto.length + j ∧ r.news[j]? = some k ∧ loc t = none) → loc u = some lj → loc' t = some li → Cur S X ops.length (plus done i) t k → Cur S X ops.length (plus done i) u k' →
        k.solid = true → k'.solid = true → li.blk = lj.blk → False := by
      intro t u li lj k k' hj hlu hl hc hc' hs hs' hb
      obtain ⟨j, k1, rfl, hj, _⟩ := hj
      have e := (cur_new j k1 hj).unique hr hc
      subst e
      obtain ⟨li', h1, h2, h3⟩ := he.news j k1 hj
      rw [hl] at h1; injection h1 with h1; subst h1
      obtain ⟨k0, hc0, hs0, hbr0, hk0, hw0⟩ := old u lj k' hlu hc' hs'
      have hlt := hbr0.lt hs0
      rcases (h3 hs).2 with h | ⟨td, lt, kd, hm, hld, hsd, hsold, hbd⟩
      · omega
      · have := hv.excl td u lt lj kd k0 hld hlu (wr_cur td _ lt kd hm hld hsd) hc0 hsold hs0 (by rw [hbd, hb])
        subst this
        have hm2 := hw0 (by unfold W; rw [hX]; exact ⟨_, hm⟩)
        have e2 := (cur_wr td _ lj hm hlu).unique hr (cur_wr td _ lj hm2 hlu)
        subst e2
        cases hs'
    rcases cases_t t li hl with h1 | h1
    · rcases cases_t u lj hl' with h2 | h2
      · obtain ⟨j1, k1, rfl, hj1, _⟩ := h1
        obtain ⟨j2, k2, rfl, hj2, _⟩ := h2
        have e1 := (cur_new j1 k1 hj1).unique hr hc
        have e2 := (cur_new j2 k2 hj2).unique hr hc'
        subst e1 e2
        rw [he.distinct j1 j2 k1 k2 li lj hj1 hj2 hs hs' hl hl' hb]
      · exact (newold t u li lj k k' h1 h2 hl hc hc' hs hs' hb).elim
    · rcases cases_t u lj hl' with h2 | h2
      · exact (newold u t lj li k' k h2 h1 hl' hc' hc hs' hs hb.symm).elim
      · obtain ⟨k0, hc0, hs0, _⟩ := old t li k h1 hc hs
        obtain ⟨k1, hc1, hs1, _⟩ := old u lj k' h2 hc' hs'
        exact hv.excl t u li lj k0 k1 h1 h2 hc0 hc1 hs0 hs1 hb
  · -- nobody else knows them
    rcases cases_t t li hl with ⟨j, k1, rfl, hj, _⟩ | hlo
    · have e := (cur_new j k1 hj).unique hr hc
      subst e
      obtain ⟨li', h1, h2, h3⟩ := he.news j k1 hj
      rw [hl] at h1; injection h1 with h1; subst h1
      exact (h3 hs).1
    · obtain ⟨k0, hc0, hs0, hbr0, _, _⟩ := old t li k hlo hc hs
      have hn := hv.free t li k0 hlo hc0 hs0 h0 (fun j hj hd => hf j hj (.inl hd))
      cases hb : im' li.blk with
      | none => rfl
      | some o =>
        rcases he.imnew _ _ hb with h | h | ⟨t2, l2, k2, h1, h2, h3, h4, h5⟩
        · rw [hn] at h; cases h
        · have := hbr0.lt hs0; omega
        · have hm := has_iff.1 h1
          have := hv.excl t2 t l2 li k2 k0 h2 hlo (fr_cur t2 l2 k2 hm h2 h3) hc0 h4 hs0 h5
          subst this
          exact absurd (by unfold FR; rw [hX]; exact hm) (hf i hin (.inr rfl))
  · -- what is not done has made nothing
    have hji : j ≠ i := fun e => hnd (.inr e)
    have hndj : ¬ done j := fun h => hnd (.inl h)
    cases hl : loc' t with
    | none => rfl
    | some li =>
      exfalso
      rcases he.locnew t li hl with h | ⟨h3, h4⟩
      · rw [hv.fresh j hj hndj t h1 h2] at h; cases h
      · rcases Nat.lt_or_gt_of_ne hji with h | h
        · have := hr.len_mono (show j + 1 ≤ i by omega) (by omega); omega
        · have := hr.len_mono (show i + 1 ≤ j by omega) (by omega); omega
  · -- the memory that was there
    have hb2 : b < w.heap.size := Nat.lt_of_lt_of_le hb hv.size
    rw [he.frame b hb2 (fun t k li k0 hm hl hs hsol hbb => ?_)]
    · exact hv.frame b hb hh
    · rcases hv.own t li k0 hl (wr_cur t k li k0 hm hl hs) hsol with h | ⟨u, lu, ku, h1, h2, h3, h4⟩
      · omega
      · exact hh u lu ku h1 h2 h3 (by omega)
  · rcases he.imnew b o hb with h | h | ⟨t, li, k, h1, h2, h3, h4, h5⟩
    · exact hv.imnew b o h
    · exact .inr (.inl (Nat.le_trans hv.size h))
    · rcases hv.own t li k h2 (fr_cur t li k (has_iff.1 h1) h2 h3) h4 with h | ⟨u, lu, ku, g1, g2, g3, g4⟩
      · exact .inr (.inl (by omega))
      · exact .inr (.inr ⟨u, lu, ku, g1, g2, g3, by omega⟩)
  · rcases he.locnew t li hl with h | ⟨h, _⟩
    · exact hv.locs t li h
    · exact .inr (Nat.le_trans (hr.len_mono (Nat.zero_le _) (by omega)) h)
  · rcases cases_t t li hl with ⟨j, k1, rfl, hj, _⟩ | hlo
    · have e := (cur_new j k1 hj).unique hr hc
      subst e
      obtain ⟨li', h1, h2, h3⟩ := he.news j k1 hj
      rw [hl] at h1; injection h1 with h1; subst h1
      rcases (h3 hs).2 with h | ⟨td, lt, kd, hm, hld, hsd, hsold, hbd⟩
      · exact .inl (Nat.le_trans hv.size h)
      · rcases hv.own td lt kd hld (wr_cur td _ lt kd hm hld hsd) hsold with h | ⟨u, lu, ku, g1, g2, g3, g4⟩
        · exact .inl (by omega)
        · exact .inr ⟨u, lu, ku, g1, g2, g3, by omega⟩
    · obtain ⟨k0, hc0, hs0, _⟩ := old t li k hlo hc hs
      exact hv.own t li k0 hlo hc0 hs0

end
end Go.Vm
