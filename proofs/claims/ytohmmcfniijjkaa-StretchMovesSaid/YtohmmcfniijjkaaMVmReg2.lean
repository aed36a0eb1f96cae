/- A region: the theorem. -/
import Derived.Test.YtohmmcfniijjkaaMVmReg
namespace Go.Vm

section
variable {P : Program} {F : Tab} {rec : Task → Option Out} {ops : List XOper} {S : Nat → St} {X : Nat → Option XR} {im0 : Im} {loc0 : Loc} {w0 : World} {nt : Nat}
  {im : Im} {loc : Loc} {a : Act} {w : World} {i : Nat} {prims : FuncId → Bool} {mops : Array Oper} {masks : List Nat}

def Listed (l : Array Bool) (i : Nat) : Prop := l.getD i false = true

theorem wpAny_drawn (hE : Env0 P F rec) (hr : Run F rec ops S X) (ho : Ord ops S X (Bef masks)) (hc : ∀ (i : Nat) (x : XOper) (o : Oper), ops[i]? = some x → mops[i]? = some o → chkOper P prims nt mops x o = true) (hlen : ops.length = mops.size)
    (hm : ∀ (k : Nat) (o : Oper), mops[k]? = some o → edgesMask masks k o.after.toList = some (masks.getD k 0))
    {Q : Exit → Act → World → Prop} (hQ : ∀ im loc a w (done : Nat → Prop), (∀ i, i < ops.length → done i) → Inv ops S X im0 loc0 w0 nt done im loc a w → Q .normal a w) :
    ∀ (fuel : Nat) (l : Array Bool) (im : Im) (loc : Loc) (a : Act) (w : World), l.size = ops.length → fuel + l.toList.count true = ops.length → (∀ k j, Listed l k → Bef masks j k → Listed l j) →
      Inv ops S X im0 loc0 w0 nt (Listed l) im loc a w → wpAny P .any mops Q fuel l a w := by
  have full : ∀ l : Array Bool, l.size = ops.length → Region.ready .any mops l = [] → ∀ i, i < ops.length → Listed l i := by
    intro l hl hnil i
    induction i using Nat.strongRecOn with
    | _ i ih =>
      intro hi
      by_cases h : Listed l i
      · exact h
      · exfalso
        have hmem : i ∈ Region.ready .any mops l := by
          rw [mem_ready]
          have ho := Array.getElem?_eq_getElem (show i < mops.size by omega)
          refine ⟨?_, _, ho, fun e he _ => ?_⟩
          · unfold Listed at h
            have hlt : i < l.size := by omega
            simp [hlt] at h ⊢; exact h
          · have := (edgesMask_ok (hm i _ ho)).1 e (by simpa using he)
            exact ih e.on this (by omega)
        rw [hnil] at hmem; cases hmem
  intro fuel
  induction fuel with
  | zero =>
    intro l im loc a w hl hcnt hclo hv
    have hall : ∀ b ∈ l.toList, true = b := by
      have : l.toList.count true = l.toList.length := by simp only [Array.length_toList]; omega
      exact List.count_eq_length.1 this
    have hfull : ∀ i, i < ops.length → Listed l i := by
      intro i hi
      have hlt : i < l.size := by omega
      have := hall (l[i]) (by simp)
      unfold Listed
      simp [hlt, ← this]
    refine ⟨?_, hQ im loc a w _ hfull hv⟩
    cases hrd : Region.ready .any mops l with
    | nil => rfl
    | cons x xs =>
      exfalso
      have hmem : x ∈ Region.ready .any mops l := by rw [hrd]; simp
      obtain ⟨h0, o, hox, _⟩ := mem_ready.1 hmem
      have hlt := (Array.getElem?_eq_some_iff.1 hox).1
      have := hfull x (by omega)
      unfold Listed at this
      have hlt' : x < l.size := by omega
      simp [hlt'] at this h0
      rw [this] at h0; cases h0
  | succ fuel ih =>
    intro l im loc a w hl hcnt hclo hv
    refine ⟨fun hnil => hQ im loc a w _ (full l hl hnil) hv, fun i hi => ?_⟩
    obtain ⟨h0, o, hox, hall⟩ := mem_ready.1 hi
    have hlt := (Array.getElem?_eq_some_iff.1 hox).1
    have hlt' : i < l.size := by omega
    have hx := List.getElem?_eq_getElem (show i < ops.length by omega)
    have hpre : ∀ j, Bef masks j i → Listed l j := by
      intro j hj
      obtain ⟨e, he, hb, h⟩ := (edgesMask_ok (hm i o hox)).2 j hj
      have hle : Listed l e.on := hall e (by simpa using he) hb
      rcases h with rfl | h
      · exact hle
      · exact hclo _ _ hle h
    have hnd : ¬ Listed l i := by
      unfold Listed; simp [hlt'] at h0 ⊢; exact h0
    refine Inv.wpOp hE hr ho hv { lt := by omega, nd := hnd, pre := fun j _ h => hpre j h, clo := fun k _ h1 j _ h2 => hclo k j h1 h2 } hx hox (hc i _ _ hx hox) fun im' loc' a' w' h' => ?_
    have e : plus (Listed l) i = Listed (l.setIfInBounds i true) := by
      funext j
      apply propext
      unfold plus Listed
      by_cases hij : i = j
      · subst hij; simp [hlt']
      · simp only [getD_set_ne false hij]
        exact ⟨fun h => h.elim id fun h => absurd h.symm hij, .inl⟩
    rw [e] at h'
    refine ih _ im' loc' a' w' (by simpa using hl) ?_ ?_ h'
    · rw [Array.toList_setIfInBounds, List.count_set (by simpa using hlt')]
      have : l.toList[i] = false := by simp [hlt'] at h0; simpa using h0
      rw [this]; simp only [Array.count_toList] at hcnt ⊢; simp; omega
    · intro k j hk hj
      rw [← e] at hk ⊢
      rcases hk with hk | rfl
      · exact .inl (hclo k j hk hj)
      · exact .inl (hpre j hj)

theorem ER.keep {st : Env} {keep : List Nat} (h : ER im loc st a.tmps) : ER im loc (keep.map fun s => (s, lk s st)) a.tmps := by
  intro t
  have : lk t (keep.map fun s => (s, lk s st)) = lk t st ∨ lk t (keep.map fun s => (s, lk s st)) = .undef := by
    induction keep with
    | nil => exact .inr rfl
    | cons s r ih =>
      simp only [List.map_cons, lk_cons]
      split
      · rename_i e; subst e; exact .inl rfl
      · exact ih
  rcases this with h' | h'
  · rw [h']; exact h t
  · rw [h']; exact .undef _

/-- What a frame holds. -/
structure ActOK (im : Im) (loc : Loc) (nt : Nat) (st : St) (a : Act) : Prop where
  env : ER im loc st.env a.tmps
  defers : a.defers = []
  nts : a.tmps.size = nt

theorem Kept.world {sto0 : Sto} {st : St} {w1 : World} (h : Kept im0 loc0 sto0 w1 st im loc w) (hh : w1.heap = w0.heap) (ho : w1.os = w0.os) (ht : w1.tape = w0.tape) (hp : w1.output = w0.output) : Kept im0 loc0 sto0 w0 st im loc w :=
  { sr := h.sr, imle := h.imle, locle := h.locle, os := h.os.trans ho, tape := h.tape.trans ht, output := h.output.trans hp, size := by have := h.size; rw [hh] at this; exact this
    frame := by have := h.frame; rw [hh] at this; exact this
    imnew := by have := h.imnew; rw [hh] at this; exact this
    locs := h.locs
    own := by have := h.own; rw [hh] at this; exact this }

theorem SR.world {sto : Sto} {fz : List Nat} {w1 : World} (h : SR im loc sto fz w) (hh : w1.heap = w.heap) : SR im loc sto fz w1 where
  im_ok := by rw [hh]; exact h.im_ok
  blk := fun t li hl => let ⟨k, h1, h2⟩ := h.blk t li hl; ⟨k, h1, h2.mono (.refl _) (.refl _) (by rw [hh])⟩
  excl := h.excl
  free := h.free

theorem region_sim (hE : Env0 P F rec) (hmix : P.follows .mixedOrders = true) {draw : Option (List Nat)} {keep : List Nat} {id : Nat} {flag : Bool} {st st' : St}
    (hc : chkRegion P prims nt draw ops mops flag = true) (hev : evRegion F rec draw ops keep st = some st') (hsr : SR im0 loc0 st.sto st.fz w0) (ha : ActOK im0 loc0 nt st a) {Q : Exit → Act → World → Prop}
    (hQ : ∀ im loc a' w', Kept im0 loc0 st.sto w0 st' im loc w' → ActOK im loc nt st' a' → Q .normal a' w') : (Code.region id mops flag).wp P Q a w0 := by
  unfold chkRegion at hc
  simp only [Bool.and_eq_true] at hc
  obtain ⟨hops, hd⟩ := hc
  obtain ⟨hlen, hchk⟩ := chkOpers_get hops
  have hlen : ops.length = mops.size := by simpa using hlen
  have hchk : ∀ (i : Nat) (x : XOper) (o : Oper), ops[i]? = some x → mops[i]? = some o → chkOper P prims nt mops x o = true := fun i x o hx ho => hchk i x o hx (by simpa using ho)
  unfold evRegion at hev
  cases he : evOps F rec ops st [] with
  | none => rw [he] at hev; cases hev
  | some q =>
    obtain ⟨st1, tr⟩ := q
    rw [he] at hev
    dsimp only at hev
    obtain ⟨S, X, h0, hn, hr, htr⟩ := evOps_run ops st [] st1 tr he
    have fin : ∀ (w1 : World), w1.heap = w0.heap → w1.os = w0.os → w1.tape = w0.tape → w1.output = w0.output → st' = { st1 with env := keep.map fun s => (s, lk s st1.env) } → ∀ im loc a' w' (done : Nat → Prop), (∀ i, i < ops.length → done i) →
        Inv ops S X im0 loc0 w1 nt done im loc a' w' → Q .normal a' w' := by
      intro w1 q1 q2 q3 q4 hst im loc a' w' done hdn hv
      obtain ⟨hk, her, hdf, hns⟩ := hv.finish hr hdn
      rw [hn] at hk her
      rw [h0] at hk
      subst hst
      have hk := hk.world q1 q2 q3 q4
      exact hQ im loc a' w' { sr := hk.sr, imle := hk.imle, locle := hk.locle, os := hk.os, tape := hk.tape, output := hk.output, size := hk.size, frame := hk.frame, imnew := hk.imnew, locs := hk.locs, own := hk.own } ⟨her.keep, hdf, hns⟩
    cases draw with
    | none =>
      dsimp only at hd hev
      have : flag = false := by simpa using hd
      subst this
      injection hev with hev
      refine wp_region ?_
      rw [List.range_eq_range']
      refine wpOps_text hE hr hchk hlen (fun im loc a w hv => fin w0 rfl rfl rfl rfl hev.symm im loc a w _ (fun i h => h) hv) mops.size 0 im0 loc0 a w0 (by omega) ?_
      have := Inv.start (ops := ops) (X := X) (w0 := w0) h0 hsr ha.env ha.defers ha.nts hr
      have e : (fun _ : Nat => False) = fun i => i < 0 := by funext i; apply propext; exact ⟨fun h => h.elim, fun h => by omega⟩
      rw [e] at this; exact this
    | some bf =>
      dsimp only at hd hev
      simp only [Bool.and_eq_true] at hd
      obtain ⟨⟨⟨rfl, hbl⟩, hmk⟩, hsl⟩ := hd
      have hbl : bf.length = ops.length := by simpa using hbl
      split at hev
      · rename_i hoo
        injection hev with hev
        have htr' : tr.reverse = trsOf S X ops.length := by rw [htr]; simp
        rw [htr'] at hoo
        obtain ⟨_, hmk⟩ := chkMasks_ok hmk
        refine wp_region_any hmix ?_
        refine wpAny_drawn (w0 := { w0 with drawn := w0.drawn + 1 }) (im0 := im0) (loc0 := loc0) hE hr (Ord.drawn hr hbl hsl hoo) hchk hlen ?_ (fun im loc a w done hdn hv => fin { w0 with drawn := w0.drawn + 1 } rfl rfl rfl rfl hev.symm im loc a w done hdn hv) mops.size _ im0 loc0 a _ (by simp [hlen]) ?_ ?_ ?_
        · intro k o ho
          have hlt := (Array.getElem?_eq_some_iff.1 ho).1
          have hk : bf[k]? = some (bf.getD k 0) := by
            rw [List.getD_eq_getElem?_getD, List.getElem?_eq_getElem (by omega)]; rfl
          simpa using hmk k _ o hk (by simpa using ho)
        · simp [hlen, List.count_replicate]
        · intro k j h
          unfold Listed at h
          by_cases hk : k < mops.size <;> simp [hk] at h
        · have := Inv.start (ops := ops) (X := X) (w0 := { w0 with drawn := w0.drawn + 1 }) h0 (hsr.world rfl) ha.env ha.defers ha.nts hr
          have e : (fun _ : Nat => False) = Listed (Array.replicate mops.size false) := by
            funext i; apply propext
            unfold Listed
            by_cases hk : i < mops.size <;> simp [hk]
          rw [e] at this; exact this
      · cases hev

end
end Go.Vm
