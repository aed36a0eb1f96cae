/- The code of a function; what it returns. -/
import Derived.Test.YtohmmcfniijjkaaMVmNorm2
import Derived.Laws.Sem
namespace Go.Vm

def chkCode (P : Program) (prims : FuncId → Bool) (nt : Nat) : XCode → Code → Bool
  | .skip, .skip => true
  | .region d ops _, .region _ mops flag => chkRegion P prims nt d ops mops flag
  | .seq a b, .seq c d => chkCode P prims nt a c && chkCode P prims nt b d
  | .cond c a b, .cond c' a' b' => chkOpd c c' && chkCode P prims nt a a' && chkCode P prims nt b b'
  | .block id b, .block id' b' => id == id' && chkCode P prims nt b b'
  | .loop _ b, .loop b' => chkCode P prims nt b b'
  | .exit id, .exit id' => id == id'
  | .ret, .ret => true
  | _, _ => false

def XExit.out : XExit → Exit
  | .normal => .normal
  | .exit id => .exit id
  | .ret => .ret

section
variable {P : Program} {F : Tab} {rec : Task → Option Out} {im0 : Im} {loc0 : Loc} {sto0 : Sto} {w0 : World} {nt : Nat} {prims : FuncId → Bool}

/-- What holds at a place of a function's code. -/
structure At (im0 : Im) (loc0 : Loc) (sto0 : Sto) (w0 : World) (nt : Nat) (st : St) (a : Act) (w : World) : Prop where
  ex : ∃ im loc, KeptF im0 loc0 sto0 w0 st im loc w ∧ ActOK im loc nt st a

/-- A loop that the table's run answers, from its head on. -/
def LoopOK (P : Program) (prims : FuncId → Bool) (rec : Task → Option Out) : Prop :=
  ∀ (live : List (Nat × Option Nat)) (x : XCode) (st : St) (e : XExit) (st' : St), rec (.loop live x st) = some (.code e st') →
    ∀ (c : Code) (nt : Nat) (im0 : Im) (loc0 : Loc) (sto0 : Sto) (w0 : World) (a : Act) (w : World), chkCode P prims nt x c = true → At im0 loc0 sto0 w0 nt st a w →
      ∀ (b : Frame) (k : List Item) (cs : List Frame), ∃ a' w', At im0 loc0 sto0 w0 nt st' a' w' ∧ Arrives P (lone (b.at a (.code c :: .inLoop c :: k)) cs w) b k cs e.out a' w'

theorem code_sim (hE : Env0 P F rec) (hL : LoopOK P prims rec) (hmix : P.follows .mixedOrders = true) : ∀ (x : XCode) (c : Code) (st : St) (e : XExit) (st' : St), chkCode P prims nt x c = true → evC F rec x st = some (e, st') →
    ∀ (a : Act) (w : World), At im0 loc0 sto0 w0 nt st a w → ∀ (Q : Exit → Act → World → Prop), (∀ a' w', At im0 loc0 sto0 w0 nt st' a' w' → Q e.out a' w') → c.wp P Q a w
  | .skip, c, st, e, st', hc, hev, a, w, ha, Q, hQ => by
    cases c <;> simp only [chkCode, Bool.false_eq_true] at hc
    simp only [evC, Option.some.injEq, Prod.mk.injEq] at hev
    obtain ⟨rfl, rfl⟩ := hev
    exact wp_skip (hQ _ _ ha)
  | .region d ops keep, c, st, e, st', hc, hev, a, w, ha, Q, hQ => by
    cases c <;> simp only [chkCode, Bool.false_eq_true] at hc
    simp only [evC, Option.map_eq_some_iff] at hev
    obtain ⟨st1, hev, h⟩ := hev
    simp only [Prod.mk.injEq] at h
    obtain ⟨rfl, rfl⟩ := h
    obtain ⟨im, loc, hk, hact⟩ := ha.ex
    refine region_sim hE hmix hc hev hk.kept.sr hact fun im' loc' a' w' hk' ha' => hQ a' w' ⟨im', loc', ?_, ha'⟩
    obtain ⟨h1, h2⟩ := evRegion_len hev
    exact ⟨hk.kept.trans hk' hk.len, by rw [h1]; exact hk.kn, Nat.le_trans hk.len h2, hk.dom⟩
  | .seq x y, c, st, e, st', hc, hev, a, w, ha, Q, hQ => by
    cases c <;> simp only [chkCode, Bool.false_eq_true, Bool.and_eq_true] at hc
    obtain ⟨h1, h2⟩ := hc
    simp only [evC] at hev
    refine wp_seq ?_
    cases hx : evC F rec x st with
    | none => rw [hx] at hev; cases hev
    | some q =>
      obtain ⟨e1, st1⟩ := q
      rw [hx] at hev
      refine code_sim hE hL hmix x _ st e1 st1 h1 hx a w ha _ fun a' w' ha' => ?_
      cases e1 with
      | normal => exact code_sim hE hL hmix y _ st1 e st' h2 hev a' w' ha' Q hQ
      | exit id =>
        simp only [Option.some.injEq, Prod.mk.injEq] at hev
        obtain ⟨rfl, rfl⟩ := hev
        exact hQ a' w' ha'
      | ret =>
        simp only [Option.some.injEq, Prod.mk.injEq] at hev
        obtain ⟨rfl, rfl⟩ := hev
        exact hQ a' w' ha'
  | .cond cc x y, c, st, e, st', hc, hev, a, w, ha, Q, hQ => by
    cases c <;> simp only [chkCode, Bool.false_eq_true, Bool.and_eq_true] at hc
    obtain ⟨⟨h0, h1⟩, h2⟩ := hc
    obtain ⟨im, loc, hk, hact⟩ := ha.ex
    have hv := opd_ok (a := a) (e := st.env) cc (fun t _ => hact.env t) _ h0
    simp only [evC] at hev
    split at hev
    · rename_i hb
      rw [hb] at hv
      exact wp_cond_true hv.bool_inv (code_sim hE hL hmix x _ st e st' h1 hev a w ha Q hQ)
    · rename_i hb
      rw [hb] at hv
      exact wp_cond_false hv.bool_inv (code_sim hE hL hmix y _ st e st' h2 hev a w ha Q hQ)
    · cases hev
  | .block id x, c, st, e, st', hc, hev, a, w, ha, Q, hQ => by
    cases c <;> simp only [chkCode, Bool.false_eq_true, Bool.and_eq_true, beq_iff_eq] at hc
    obtain ⟨rfl, h1⟩ := hc
    refine wp_block ?_
    simp only [evC] at hev
    cases hx : evC F rec x st with
    | none => rw [hx] at hev; cases hev
    | some q =>
      obtain ⟨e1, st1⟩ := q
      rw [hx] at hev
      refine code_sim hE hL hmix x _ st e1 st1 h1 hx a w ha _ fun a' w' ha' => ?_
      cases e1 with
      | normal =>
        simp only [Option.some.injEq, Prod.mk.injEq] at hev
        obtain ⟨rfl, rfl⟩ := hev
        exact hQ a' w' ha'
      | ret =>
        simp only [Option.some.injEq, Prod.mk.injEq] at hev
        obtain ⟨rfl, rfl⟩ := hev
        exact hQ a' w' ha'
      | exit j =>
        dsimp only at hev
        simp only [XExit.out, Exit.inBlock]
        split at hev
        · rename_i hj
          have : j = id := by simpa using hj
          simp only [Option.some.injEq, Prod.mk.injEq] at hev
          obtain ⟨rfl, rfl⟩ := hev
          rw [if_pos this]
          exact hQ a' w' ha'
        · rename_i hj
          have : j ≠ id := by simpa using hj
          simp only [Option.some.injEq, Prod.mk.injEq] at hev
          obtain ⟨rfl, rfl⟩ := hev
          rw [if_neg this]
          exact hQ a' w' ha'
  | .loop live x, c, st, e, st', hc, hev, a, w, ha, Q, hQ => by
    cases c <;> simp only [chkCode, Bool.false_eq_true] at hc
    simp only [evC] at hev
    split at hev
    · rename_i e1 st1 hr
      simp only [Option.some.injEq, Prod.mk.injEq] at hev
      obtain ⟨rfl, rfl⟩ := hev
      intro b k cs
      obtain ⟨a', w', h1, h2⟩ := hL live x st _ _ hr _ nt im0 loc0 sto0 w0 a w hc ha b k cs
      exact ⟨_, a', w', hQ a' w' h1, .of_steps (.one step_loop) h2⟩
    · cases hev
  | .exit id, c, st, e, st', hc, hev, a, w, ha, Q, hQ => by
    cases c <;> simp only [chkCode, Bool.false_eq_true, beq_iff_eq] at hc
    subst hc
    simp only [evC, Option.some.injEq, Prod.mk.injEq] at hev
    obtain ⟨rfl, rfl⟩ := hev
    exact wp_exit (hQ _ _ ha)
  | .ret, c, st, e, st', hc, hev, a, w, ha, Q, hQ => by
    cases c <;> simp only [chkCode, Bool.false_eq_true] at hc
    simp only [evC, Option.some.injEq, Prod.mk.injEq] at hev
    obtain ⟨rfl, rfl⟩ := hev
    exact wp_ret (hQ _ _ ha)

/-- One more round of fuel. -/
theorem loop_step (hE : Env0 P F rec) (hL : LoopOK P prims rec) (hmix : P.follows .mixedOrders = true) : LoopOK P prims (step F rec) := by
  intro live x st e st' h c nt im0 loc0 sto0 w0 a w hc ha b k cs
  simp only [step] at h
  cases hn : norm live st with
  | none => rw [hn] at h; cases h
  | some st1 =>
    rw [hn] at h
    dsimp only at h
    obtain ⟨im, loc, hk, hact⟩ := ha.ex
    obtain ⟨loc1, hk1, ha1⟩ := norm_ok hn hk hact
    have hat : At im0 loc0 sto0 w0 nt st1 a w := ⟨im, loc1, hk1, ha1⟩
    cases hx : evC F rec x st1 with
    | none => rw [hx] at h; cases h
    | some q =>
      obtain ⟨e1, st2⟩ := q
      rw [hx] at h
      have hw := code_sim hE hL hmix x c st1 e1 st2 hc hx a w hat (fun e' a' w' => e' = e1.out ∧ At im0 loc0 sto0 w0 nt st2 a' w') fun a' w' h => ⟨rfl, h⟩
      obtain ⟨e', a1, w1, ⟨rfl, hq⟩, harr⟩ := hw b (.inLoop c :: k) cs
      cases e1 with
      | normal =>
        dsimp only at h
        obtain ⟨a', w', h1, h2⟩ := hL live x st2 e st' h c nt im0 loc0 sto0 w0 a1 w1 hc hq b k cs
        exact ⟨a', w', h1, .of_steps (Steps.trans harr (.one step_inLoop)) h2⟩
      | exit id =>
        simp only [Option.some.injEq, Out.code.injEq] at h
        obtain ⟨rfl, rfl⟩ := h
        exact ⟨a1, w1, hq, .pass (x := .inLoop c) rfl (fun _ _ => .inl (by simp [XExit.out])) harr⟩
      | ret =>
        simp only [Option.some.injEq, Out.code.injEq] at h
        obtain ⟨rfl, rfl⟩ := h
        exact ⟨a1, w1, hq, .pass (x := .inLoop c) rfl (fun _ _ => .inl (by simp [XExit.out])) harr⟩

/-! ### results -/

def chkRes (P : Program) : List RV → List ResultVar → Bool
  | [], [] => true
  | .tmp t :: r, .tmp t' :: s => t == t' && chkRes P r s
  | .cell t agg :: r, .cell t' ty :: s => t == t' && aggIs P ty agg && chkRes P r s
  | _, _ => false

def resM (tmps : Array Value) : ResultVar → Sem Value
  | .tmp t => pure (tmps.getD t undef)
  | .cell a t => do loadVar t (← asAddr (tmps.getD a undef))

theorem loadE_ptr {im : Im} {loc : Loc} {sto : Sto} {agg : Option Nat} {p : PV} {u : Value} {r : Res} (hp : VR im loc p u) (h : loadE sto agg p = some r) : ∃ ad, u = .pointer (some ad) := by
  cases hp <;> first | (simp [loadE] at h; done) | exact ⟨_, rfl⟩

theorem SR.known {im : Im} {loc : Loc} {sto : Sto} {fz : List Nat} {w : World} (h : SR im loc sto fz w) {r : Res} (hn : r.news = []) (hw : r.wr = []) : Known im loc sto w r where
  im_ok := h.im_ok
  tok := fun t _ li hl => h.blk t li hl
  free := fun t k hm => by rw [hw] at hm; cases hm
  fresh := fun j hj => by rw [hn] at hj; simp at hj

theorem loadE_pure {sto : Sto} {agg : Option Nat} {p : PV} {r : Res} (h : loadE sto agg p = some r) : r.news = [] ∧ r.wr = [] := by
  unfold loadE at h
  split at h
  · split at h
    · split at h
      · rw [Option.map_eq_some_iff] at h; obtain ⟨_, _, rfl⟩ := h; exact ⟨rfl, rfl⟩
      · cases h
    · split at h
      · rw [Option.map_eq_some_iff] at h; obtain ⟨_, _, rfl⟩ := h; exact ⟨rfl, rfl⟩
      · cases h
    · cases h
  · rw [Option.map_eq_some_iff] at h; obtain ⟨_, _, rfl⟩ := h; exact ⟨rfl, rfl⟩
  · cases h

theorem res_ok {im : Im} {loc : Loc} {st : St} {a : Act} {w : World} (hsr : SR im loc st.sto st.fz w) (ha : ER im loc st.env a.tmps) : ∀ {rs : List RV} {vs : List PV} {os : List ResultVar}, chkRes P rs os = true → resAll st rs = some vs →
    ∃ us, (os.mapM (resM a.tmps)).run P w = .ok us w ∧ VRL im loc vs us
  | [], vs, os, hc, h => by
    cases os <;> simp only [chkRes, Bool.false_eq_true] at hc
    simp only [resAll, Option.some.injEq] at h; subst h
    exact ⟨[], by simp, .nil⟩
  | r :: rs, vs, [], hc, h => by cases r <;> simp [chkRes] at hc
  | r :: rs, vs, o :: os, hc, h => by
    simp only [resAll] at h
    split at h
    · rename_i v vs' h1 h2
      injection h with h; subst h
      have hone : ∃ u, (resM a.tmps o).run P w = .ok u w ∧ VR im loc v u ∧ chkRes P rs os = true := by
        cases r with
        | tmp t =>
          cases o with
          | tmp t' =>
            simp only [chkRes, Bool.and_eq_true, beq_iff_eq] at hc
            obtain ⟨rfl, hc⟩ := hc
            simp only [resOf, Option.some.injEq] at h1; subst h1
            exact ⟨_, rfl, ha t, hc⟩
          | cell _ _ => simp [chkRes] at hc
        | cell t agg =>
          cases o with
          | tmp t' => simp [chkRes] at hc
          | cell t' ty =>
            simp only [chkRes, Bool.and_eq_true, beq_iff_eq] at hc
            obtain ⟨⟨rfl, hag⟩, hc⟩ := hc
            simp only [resOf, Option.map_eq_some_iff] at h1
            obtain ⟨rr, h3, rfl⟩ := h1
            obtain ⟨g1, g2⟩ := loadE_pure h3
            obtain ⟨u, hrun, hvr, _⟩ := sim_load (P := P) (ha t) hag h3 (hsr.known g1 g2)
            obtain ⟨ad, had⟩ := loadE_ptr (ha t) h3
            refine ⟨u, ?_, hvr, hc⟩
            simp only [resM, had, asAddr]
            rw [had] at hrun
            simpa [Instr.loadAt, Instr.sureAddr] using hrun
      obtain ⟨u, hu, hvr, hc⟩ := hone
      obtain ⟨us, hus, hvrs⟩ := res_ok hsr ha hc h2
      refine ⟨u :: us, ?_, .cons _ _ _ _ hvr hvrs⟩
      rw [List.mapM_cons]
      simp only [Sem.run_bind, hu, Result.andThen_ok, hus, Sem.run_pure]
    · cases h

theorem results_ok {im : Im} {loc : Loc} {st : St} {a : Act} {w : World} {fn : Func} (hsr : SR im loc st.sto st.fz w) (ha : ER im loc st.env a.tmps) {rs : List RV} {vs : List PV} (hc : chkRes P rs fn.results.toList = true) (h : resAll st rs = some vs) :
    ∃ u, (results fn a.tmps).run P w = .ok u w ∧ VR im loc (results1 vs) u := by
  obtain ⟨us, h1, h2⟩ := res_ok (P := P) hsr ha hc h
  have e : fn.results.mapM (resM a.tmps) = List.toArray <$> fn.results.toList.mapM (resM a.tmps) := Array.mapM_eq_mapM_toList
  have h3 : (fn.results.mapM (resM a.tmps)).run P w = .ok us.toArray w := by
    rw [e]
    rw [map_eq_pure_bind, Sem.run_bind, h1]
    rfl
  have hres : results fn a.tmps = (do let vs ← fn.results.mapM (resM a.tmps); pure (if h : vs.size = 1 then vs[0] else .tuple vs)) := by
    unfold results
    congr 1
  rw [hres]
  simp only [Sem.run_bind, h3, Result.andThen_ok, Sem.run_pure]
  refine ⟨_, rfl, ?_⟩
  cases h2 with
  | nil => exact .tup _ _ .nil
  | cons x u xs us g2 g3 =>
    cases g3 with
    | nil => exact g2
    | cons y v ys vs g4 g5 => exact .tup _ _ (.cons _ _ _ _ g2 (.cons _ _ _ _ g4 g5))

end
end Go.Vm
