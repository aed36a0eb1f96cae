/- One operation of a region, in the model. -/
import Derived.Test.YtohmmcfniijjkaaMVmShr
import Derived.Orders
namespace Go.Vm

theorem callTo_wp {P : Program} {o : Oper} {a : Act} {w : World} {f : FuncId} {us : Array Value} {R : Value → World → Prop} {next : Act → World → Prop} {Q : Exit → Act → World → Prop}
    (h : (execOp a.eval o).run P w = (callFunc f us).run P w) (hc : CallTo P f us w R) (hR : ∀ v w', R v w' → next (a.put o.dst v) w') : o.wp P a w next Q := by
  unfold Oper.wp
  rw [h]
  rcases hc with ⟨v, w', h1, h2⟩ | ⟨h1, h2⟩
  · rw [h1, Oper.upon_value]; exact hR v w' h2
  · rw [h1, Oper.upon_enter]
    refine h2.mono fun e w' ⟨v, he, hv⟩ => ?_
    subst he
    exact hR v w' hv

theorem opd_ok {im : Im} {loc : Loc} {e : Env} {a : Act} (x : Opd) (h : ∀ t, x = .t t → VR im loc (lk t e) (a.tmps.getD t Go.undef)) (o : Operand) (hc : chkOpd x o = true) : VR im loc (x.ev e) (a.eval o) := by
  unfold chkOpd at hc
  split at hc
  · rename_i n m
    have : n = m := by simpa using hc
    subst this
    exact h n rfl
  · exact cval_ok hc
  · rename_i f g
    have : f = g := by simpa using hc
    subst this
    exact .clo f [] [] [] [] .nil .nil
  · exact .undef _
  · cases hc

section
variable {P : Program} {F : Tab} {rec : Task → Option Out} {ops : List XOper} {S : Nat → St} {X : Nat → Option XR} {bef : Nat → Nat → Prop} {im0 : Im} {loc0 : Loc} {w0 : World} {nt : Nat}
  {done : Nat → Prop} {im : Im} {loc : Loc} {a : Act} {w : World} {i : Nat} {prims : FuncId → Bool} {mops : Array Oper}

theorem VR.nul_inv {v : Value} (h : VR im loc .nul v) : v = Go.undef := by
  cases h; rfl

theorem noRes_next {r : Res} {d : Option Nat} {st : St} : ((XR.loc r).next d st).sto.length = st.sto.length + r.news.length := by simp [XR.next, addN_eq, applyWr_length]

/-- The guard. -/
theorem wanted_ok {x : XOper} {o : Oper} {e : Env} {b : Bool} (hc : chkGuard mops x.guard o.guard = true) (hs : ∀ s c, x.guard = some (s, c) → VR im loc (lk s e) (a.tmps.getD s Go.undef)) (h : wanted x.guard e = some b) :
    Region.wanted o (yielded mops a.tmps) = b := by
  unfold Region.wanted
  cases hg : x.guard with
  | none =>
    rw [hg] at hc h
    cases ho : o.guard with
    | none => simp [wanted] at h; subst h; rfl
    | some q => rw [ho] at hc; simp [chkGuard] at hc
  | some q =>
    obtain ⟨s, c⟩ := q
    rw [hg] at hc h
    cases ho : o.guard with
    | none => rw [ho] at hc; simp [chkGuard] at hc
    | some q' =>
      obtain ⟨j, c'⟩ := q'
      rw [ho] at hc
      simp only [chkGuard, Bool.and_eq_true, beq_iff_eq] at hc
      obtain ⟨rfl, hd⟩ := hc
      have hv := hs s c hg
      dsimp only
      unfold yielded
      rw [hd]
      simp only [wanted] at h
      simp only [Option.bind_some]
      split at h
      · rename_i b' hl
        rw [hl] at hv
        have := hv.bool_inv
        have ht : a.tmps[s]? = some (.bool b') := by
          simp only [Array.getD_eq_getD_getElem?] at this
          cases hq : a.tmps[s]? with
          | none => rw [hq] at this; simp [Go.undef] at this
          | some u => rw [hq] at this; exact congrArg some this
        rw [ht]
        rw [Option.some.injEq] at h; rw [← h]
        cases b' <;> cases c <;> rfl
      · rename_i hl
        rw [hl] at hv
        have : a.tmps.getD s Go.undef = Go.undef := hv.nul_inv
        injection h with h; subst h
        have ht : ∀ b', a.tmps[s]? ≠ some (.bool b') := by
          intro b' hq
          simp only [Array.getD_eq_getD_getElem?, hq, Option.getD_some, Go.undef] at this
          cases this
        split
        · rename_i b' hq
          exact absurd hq (ht b')
        · rfl
      · cases h

/-- What a run of a region's operation needs: the tables are right. -/
structure Env0 (P : Program) (F : Tab) (rec : Task → Option Out) : Prop where
  func : FuncOK P rec
  prim : PrimsOK P F

theorem Inv.wpOp (hE : Env0 P F rec) (hr : Run F rec ops S X) (ho : Ord ops S X bef) (hv : Inv ops S X im0 loc0 w0 nt done im loc a w) (hp : Place ops bef done i) {x : XOper} {o : Oper} (hx : ops[i]? = some x) (hmo : mops[i]? = some o)
    (hc : chkOper P prims nt mops x o = true) {Q : Exit → Act → World → Prop} {K : Act → World → Prop}
    (hK : ∀ im' loc' a' w', Inv ops S X im0 loc0 w0 nt (plus done i) im' loc' a' w' → K a' w') : Go.wpOp P mops Q i K a w := by
  unfold chkOper at hc
  simp only [Bool.and_eq_true, beq_iff_eq] at hc
  obtain ⟨⟨⟨hdst, hnt⟩, hg⟩, hop⟩ := hc
  have hd : ∀ d, x.dst = some d → d < nt := by
    intro d h; rw [h] at hnt; simpa using hnt
  have hslot : ∀ t, t ∈ uses x → VR im loc (lk t (S i).env) (a.tmps.getD t Go.undef) := fun t ht => hv.slot hr ho hp hx ht
  have hopd : ∀ y ∈ x.op.opds, ∀ o', chkOpd y o' = true → VR im loc (y.ev (S i).env) (a.eval o') := by
    intro y hy o' hco
    refine opd_ok y (fun t ht => hslot t ?_) o' hco
    subst ht
    exact List.mem_append_left _ (List.mem_filterMap.2 ⟨.t t, hy, rfl⟩)
  have hgs : ∀ s c, x.guard = some (s, c) → VR im loc (lk s (S i).env) (a.tmps.getD s Go.undef) := by
    intro s c h
    refine hslot s (List.mem_append_right _ ?_)
    rw [h]; simp
  unfold Go.wpOp
  simp only [hmo]
  rcases hr.steps i x hx with ⟨hw, xr, hev, hok, hX, hS⟩ | ⟨hw, hX, hS⟩
  · rw [wanted_ok hg hgs hw]
    simp only [if_true]
    left
    -- the local outcomes of calls
    have loc_call : ∀ {own : Bool} {f : FuncId} {args : List PV} {us : List Value} {r : Res}, xr = .loc r → callPure F rec own f args (S i).sto (S i).fz = some r → VRL im loc args us →
        (execOp a.eval o).run P w = (callFunc f ⟨us⟩).run P w → o.wp P a w K Q := by
      intro own f args us r hxr hcp hus hrun
      subst hxr
      have hk := hv.known hr ho hp hX hok (by rw [hS]; exact noRes_next)
      refine callTo_wp hrun (callPure_sim hE.func hE.prim hcp hus hk) fun v' w' ⟨im', loc', hvr, heff⟩ => ?_
      exact hK _ _ _ _ (hdst ▸ hv.step_loc hr ho hp hx hX hok hS hvr heff hd)
    have shr_call : ∀ {f : FuncId} {args : List PV} {us : List Value}, callShared rec f args (S i).sto (S i).fz = some xr → VRL im loc args us →
        (execOp a.eval o).run P w = (callFunc f ⟨us⟩).run P w → o.wp P a w K Q := by
      intro f args us hcs hus hrun
      unfold callShared at hcs
      split at hcs
      · rename_i v s z hrec
        split at hcs
        · injection hcs with hcs; subst hcs
          refine callTo_wp hrun (hE.func f args _ _ v s z hrec im loc w us (hv.sr hr ho hp hX) hus) fun v' w' ⟨im', loc', hf⟩ => ?_
          exact hK _ _ _ _ (hdst ▸ hv.step_shr hr ho hp hx hX hS hf hd)
        · cases hcs
      · cases hcs
    have loc_op : ∀ {r : Res}, xr = .loc r → evOp (S i).env (S i).sto (S i).fz x.op = some r → o.wp P a w K Q := by
      intro r hxr he
      subst hxr
      have hk := hv.known hr ho hp hX hok (by rw [hS]; exact noRes_next)
      obtain ⟨nx, w', loc', hrun, hnx, heff⟩ := evOp_sim hop hopd he hk
      unfold Oper.wp
      rw [hrun]
      rcases hnx with ⟨rfl, hu⟩ | ⟨v, rfl, hvr⟩
      · rw [Oper.upon_skip]
        exact hK _ _ _ _ (hdst ▸ hv.step_loc hr ho hp hx hX hok hS (by rw [hu]; exact .undef _) heff hd)
      · rw [Oper.upon_value]
        exact hK _ _ _ _ (hdst ▸ hv.step_loc hr ho hp hx hX hok hS hvr heff hd)
    cases hxo : x.op with
    | call m f args =>
      rw [hxo] at hev hop hopd
      have hcall : ∃ as ats, o.op = .call { callee := .value (.func f), args := as, argTypes := ats } ∧ chkOpds args as.toList = true := by
        cases hoo : o.op with
        | call c =>
          obtain ⟨callee, as, ats⟩ := c
          rw [hoo] at hop
          cases callee with
          | value g =>
            cases g with
            | func g =>
              simp only [chkOp, Bool.and_eq_true, beq_iff_eq] at hop
              obtain ⟨⟨rfl, _⟩, h⟩ := hop
              exact ⟨as, ats, rfl, h⟩
            | _ => simp [chkOp] at hop
          | _ => simp [chkOp] at hop
        | _ => rw [hoo] at hop; simp [chkOp] at hop
      obtain ⟨as, ats, hoo, hco⟩ := hcall
      have hrel : VRL im loc (evs (S i).env args) (as.toList.map a.eval) := chkOpds_rel (fun y hy => hopd y (by simpa [XOp.opds] using hy)) hco
      have hrun : (execOp a.eval o).run P w = (callFunc f ⟨as.toList.map a.eval⟩).run P w := by
        have : (⟨as.toList.map a.eval⟩ : Array Value) = as.map a.eval := by apply Array.ext'; simp
        rw [this]
        simp [execOp, hoo, resolve, Act.eval, Deferred.ofValue, invoke]
      cases m with
      | pur =>
        simp only [evX, Option.map_eq_some_iff] at hev
        obtain ⟨r, hr1, hr2⟩ := hev
        exact loc_call hr2.symm hr1 hrel hrun
      | own =>
        simp only [evX, Option.map_eq_some_iff] at hev
        obtain ⟨r, hr1, hr2⟩ := hev
        exact loc_call hr2.symm hr1 hrel hrun
      | shr => exact shr_call hev hrel hrun
    | callv y args =>
      rw [hxo] at hev hop hopd
      have hcall : ∃ t as ats, o.op = .call { callee := .value (.tmp t), args := as, argTypes := ats } ∧ chkOpd y (.tmp t) = true ∧ chkOpds args as.toList = true := by
        cases hoo : o.op with
        | call c =>
          obtain ⟨callee, as, ats⟩ := c
          rw [hoo] at hop
          cases callee with
          | value g =>
            cases g with
            | tmp g =>
              simp only [chkOp, Bool.and_eq_true] at hop
              exact ⟨g, as, ats, rfl, hop.1, hop.2⟩
            | _ => simp [chkOp] at hop
          | _ => simp [chkOp] at hop
        | _ => rw [hoo] at hop; simp [chkOp] at hop
      obtain ⟨t, as, ats, hoo, hcy, hco⟩ := hcall
      have hrel : VRL im loc (evs (S i).env args) (as.toList.map a.eval) := chkOpds_rel (fun y hy => hopd y (by simp [XOp.opds, hy])) hco
      have hy := hopd y (by simp [XOp.opds]) (.tmp t) hcy
      simp only [evX] at hev
      split at hev
      · rename_i f p q hyv
        rw [hyv] at hy
        generalize hgv : a.eval (.tmp t) = gv at hy
        cases hy with
        | clo _ _ _ us vs h1 h2 =>
        have hargs := (h1.append hrel).append h2
        have hrun : (execOp a.eval o).run P w = (callFunc f ⟨us ++ as.toList.map a.eval ++ vs⟩).run P w := by
          have : (⟨us ++ as.toList.map a.eval ++ vs⟩ : Array Value) = (⟨us⟩ ++ as.map a.eval) ++ ⟨vs⟩ := by apply Array.ext'; simp
          rw [this]
          simp [execOp, hoo, resolve, hgv, Deferred.ofValue, invoke]
        split at hev
        · exact shr_call hev hargs hrun
        · rw [Option.map_eq_some_iff] at hev
          obtain ⟨r, hr1, hr2⟩ := hev
          exact loc_call hr2.symm hr1 hargs hrun
      · cases hev
    | _ =>
      rw [hxo] at hev
      simp only [evX, Option.map_eq_some_iff] at hev
      obtain ⟨r, hr1, hr2⟩ := hev
      exact loc_op hr2.symm (by rw [hxo]; exact hr1)
  · rw [wanted_ok hg hgs hw]
    simp only [Bool.false_eq_true, if_false]
    exact hK _ _ _ _ (hdst ▸ hv.step_skip hr ho hp hx hX hS hd)

end
end Go.Vm
