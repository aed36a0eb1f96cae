/- What the logical machine answers, the model answers. -/
import Derived.Test.YtohmmcfniijjkaaMVmCode
namespace Go.Vm

def chkFunc (P : Program) (prims : FuncId → Bool) (x : XFunc) (f : FuncId) : Bool :=
  match P.funcs[f]? with
  | some fn => !(fn.name == "runtime.NumGoroutine") && Nat.ble x.nargs fn.ntmps && chkRes P x.res fn.results.toList && (match fn.body with | some c => chkCode P prims fn.ntmps x.code c | none => false)
  | none => false

section
variable {P : Program} {F : Tab} {rec : Task → Option Out} {prims : FuncId → Bool}

def TabOK (P : Program) (prims : FuncId → Bool) (F : Tab) : Prop := ∀ f x, F f = some (.code x) → chkFunc P prims x f = true

theorem lk_envOf : ∀ (args : List PV) (i t : Nat), lk t (envOf i args) = if i ≤ t then (args[t - i]?).getD .undef else .undef
  | [], i, t => by simp [envOf, lk]
  | v :: r, i, t => by
    simp only [envOf, lk_cons]
    rw [lk_envOf r (i + 1) t]
    by_cases h : i = t
    · subst h; simp
    · rw [if_neg h]
      by_cases h2 : i ≤ t
      · rw [if_pos h2, if_pos (by omega)]
        have : t - i = (t - (i + 1)) + 1 := by omega
        rw [this]; simp
      · rw [if_neg h2, if_neg (by omega)]

theorem start_env {im : Im} {loc : Loc} {args : List PV} {us : List Value} (h : VRL im loc args us) (n : Nat) : ER im loc (envOf 0 args) ((⟨us⟩ : Array Value) ++ Array.replicate n Go.undef) := by
  intro t
  rw [lk_envOf]
  simp only [Nat.zero_le, if_true, Nat.sub_zero]
  cases ha : args[t]? with
  | none => exact .undef _
  | some x =>
    obtain ⟨v, hv, hr⟩ := h.get t x ha
    have : ((⟨us⟩ : Array Value) ++ Array.replicate n Go.undef).getD t Go.undef = v := by
      have hlt := lt_of_get hv
      simp only [Array.getD_eq_getD_getElem?]
      rw [Array.getElem?_append_left (by simpa using hlt)]
      simp [hv]
    rw [this]; exact hr

theorem callFunc_enter {f : FuncId} {fn : Func} {c : Code} {us : Array Value} {w : World} (hf : P.funcs[f]? = some fn) (hn : (fn.name == "runtime.NumGoroutine") = false) (hb : fn.body = some c) : (callFunc f us).run P w = .ok (.enter f us) w := by
  unfold callFunc
  have hn : ¬ fn.name = "runtime.NumGoroutine" := by simpa using hn
  simp [Sem.run_bind, hf, hn, hb]

theorem func_step (hE : Env0 P F rec) (hL : LoopOK P prims rec) (hT : TabOK P prims F) (hmix : P.follows .mixedOrders = true) : FuncOK P (step F rec) := by
  intro f args sto fz v sto' fz' h im loc w us hsr hus
  simp only [step] at h
  split at h
  · rename_i x hF
    have hc := hT f x hF
    unfold chkFunc at hc
    cases hf : P.funcs[f]? with
    | none => rw [hf] at hc; cases hc
    | some fn =>
      rw [hf] at hc
      simp only [Bool.and_eq_true, Bool.not_eq_true'] at hc
      obtain ⟨⟨⟨hname, hna⟩, hres⟩, hbody⟩ := hc
      cases hb : fn.body with
      | none => rw [hb] at hbody; cases hbody
      | some c =>
        rw [hb] at hbody
        dsimp only at hbody
        refine .inr ⟨callFunc_enter hf hname hb, calls_of_wp hf hb ?_⟩
        split at h
        · rename_i hlen
          have hlen : args.length = x.nargs := by simpa using hlen
          have hna : x.nargs ≤ fn.ntmps := by simpa using hna
          have husl := hus.length
          let st0 : St := { env := envOf 0 args, sto, fz, kn := sto.length }
          let a0 : Act := { tmps := (⟨us⟩ : Array Value) ++ Array.replicate (fn.ntmps - (⟨us⟩ : Array Value).size) Go.undef, defers := [] }
          have hat : At im loc sto w fn.ntmps st0 a0 w := by
            refine ⟨im, loc, ⟨⟨hsr, .refl _, .refl _, rfl, rfl, rfl, Nat.le_refl _, fun _ _ _ => rfl, fun _ _ h => .inl h, fun _ _ h => .inl h, fun t li k hl hs hsol => .inr ⟨t, li, k, hl, hs, hsol, rfl⟩⟩, rfl, Nat.le_refl _, fun t li hl => ?_⟩, ⟨start_env hus _, rfl, ?_⟩⟩
            · obtain ⟨k, hk, _⟩ := hsr.blk t li hl
              exact lt_of_get hk
            · simp only [a0, Array.size_append, Array.size_replicate]
              show us.length + _ = _
              have : (⟨us⟩ : Array Value).size = us.length := rfl
              rw [this]; omega
          have fin : ∀ (st : St), (resAll st x.res).map (fun vs => Out.func (results1 vs) st.sto st.fz) = some (.func v sto' fz') → ∀ a' w', At im loc sto w fn.ntmps st a' w' →
              a'.defers = [] ∧ ∃ u, (results fn a'.tmps).run P w' = .ok u w' ∧ ∃ v', Ending.returned u = .returned v' ∧ ∃ im' loc', FPost im loc sto w v sto' fz' im' loc' w' v' := by
            intro st hst a' w' hat
            obtain ⟨im', loc', hk, hact⟩ := hat.ex
            rw [Option.map_eq_some_iff] at hst
            obtain ⟨vs, hvs, he⟩ := hst
            simp only [Out.func.injEq] at he
            obtain ⟨rfl, rfl, rfl⟩ := he
            obtain ⟨u, hu, hvr⟩ := results_ok (P := P) (fn := fn) hk.kept.sr hact.env hres hvs
            have K := hk.kept
            exact ⟨hact.defers, u, hu, u, rfl, im', loc', ⟨K.imle, K.locle, hvr, K.sr, K.os, K.tape, K.output, K.size, K.frame, K.imnew, K.locs, K.own⟩⟩
          split at h
          · rename_i st hev
            exact code_sim hE hL hmix x.code c st0 .normal st hbody hev a0 w hat _ fun a' w' hat' => fin st h a' w' hat'
          · rename_i st hev
            exact code_sim hE hL hmix x.code c st0 .ret st hbody hev a0 w hat _ fun a' w' hat' => fin st h a' w' hat'
          · cases h
        · cases h
  · cases h

theorem sound (hT : TabOK P prims F) (hprim : PrimsOK P F) (hmix : P.follows .mixedOrders = true) : ∀ n, FuncOK P (run F n) ∧ LoopOK P prims (run F n)
  | 0 => ⟨fun f args sto fz v sto' fz' h => by simp [run] at h, fun live x st e st' h => by simp [run] at h⟩
  | n + 1 => by
    obtain ⟨h1, h2⟩ := sound hT hprim hmix n
    have hE : Env0 P F (run F n) := ⟨h1, hprim⟩
    exact ⟨func_step hE h2 hT hmix, loop_step hE h2 hmix⟩

/-- A call with arguments that nobody writes to, of a function of the table that has a body: what it answers, and that nothing that was there has turned. -/
theorem call_pure (hT : TabOK P prims F) (hprim : PrimsOK P F) (hmix : P.follows .mixedOrders = true) {n : Nat} {f : FuncId} {args : List PV} {v : PV} {sto' : Sto} {fz' : List Nat} (h : run F n (.func f args [] []) = some (.func v sto' fz'))
    {im : Im} {w : World} {us : List Value} (him : ∀ b o, im b = some o → w.heap[b]? = some o) (hus : VRL im noLoc args us) :
    Calls P f ⟨us⟩ w fun e w' => ∃ u, e = .returned u ∧ (∃ im' loc', VR im' loc' v u ∧ SR im' loc' sto' fz' w') ∧ w'.os = w.os ∧ w'.tape = w.tape ∧ w'.output = w.output ∧ w.heap.size ≤ w'.heap.size ∧ ∀ b, b < w.heap.size → w'.heap[b]? = w.heap[b]? := by
  have key := (sound hT hprim hmix n).1 f args [] [] v sto' fz' h im noLoc w us (SR.empty him) hus
  rcases key with ⟨u, w', h1, h2⟩ | ⟨h1, h2⟩
  · exfalso
    -- a function of the table is entered
    cases n with
    | zero => simp [run] at h
    | succ n =>
      have h : step F (run F n) (.func f args [] []) = some (.func v sto' fz') := h
      simp only [step] at h
      split at h
      · rename_i x hF
        have hc := hT f x hF
        unfold chkFunc at hc
        cases hf : P.funcs[f]? with
        | none => rw [hf] at hc; cases hc
        | some fn =>
          rw [hf] at hc
          simp only [Bool.and_eq_true, Bool.not_eq_true'] at hc
          cases hb : fn.body with
          | none => rw [hb] at hc; exact (by have hzz:=hc.2;cases hzz)
          | some c =>
            rw [callFunc_enter hf hc.1.1.1 hb] at h1
            cases h1
      · cases h
  · refine h2.mono fun e w' ⟨u, he, im', loc', hp⟩ => ⟨u, he, ⟨im', loc', hp.vr, hp.sr⟩, hp.os, hp.tape, hp.output, hp.size, fun b hb => hp.frame b hb fun t li k hl => by cases hl⟩

end
end Go.Vm
