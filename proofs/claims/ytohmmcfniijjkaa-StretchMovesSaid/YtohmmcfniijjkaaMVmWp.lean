/- Rules for the logical machine: what more fuel keeps, and a calculus of its runs. -/
import Derived.Test.YtohmmcfniijjkaaMVmDef
namespace Go.Vm

def Le (r s : Task → Option Out) : Prop := ∀ t o, r t = some o → s t = some o

theorem callPure_mono {F : Tab} {r s : Task → Option Out} (h : Le r s) {own : Bool} {f : FuncId} {args : List PV} {sto : Sto} {fz : List Nat} {x : Res}
    (hx : callPure F r own f args sto fz = some x) : callPure F s own f args sto fz = some x := by
  cases ha : exL sto (exBx sto deep) args with
  | none => simp [callPure, ha] at hx
  | some a =>
    simp only [callPure, ha] at hx ⊢
    cases hp : F f with
    | none =>
      rw [hp] at hx
      dsimp only at hx ⊢
      cases hr : r (.func f a [] []) with
      | none => rw [hr] at hx; cases hx
      | some o => rw [hr] at hx; rw [h _ _ hr]; exact hx
    | some en =>
      rw [hp] at hx
      cases en with
      | prim k p => exact hx
      | code x =>
        dsimp only at hx ⊢
        cases hr : r (.func f a [] []) with
        | none => rw [hr] at hx; cases hx
        | some o => rw [hr] at hx; rw [h _ _ hr]; exact hx

theorem callShared_mono {r s : Task → Option Out} (h : Le r s) {f : FuncId} {args : List PV} {sto : Sto} {fz : List Nat} {x : XR}
    (hx : callShared r f args sto fz = some x) : callShared s f args sto fz = some x := by
  unfold callShared at hx ⊢
  cases hr : r (.func f args sto fz) with
  | none => rw [hr] at hx; cases hx
  | some o => rw [hr] at hx; rw [h _ _ hr]; exact hx

theorem evX_mono {F : Tab} {r s : Task → Option Out} (h : Le r s) {e : Env} {sto : Sto} {fz : List Nat} {op : XOp} {x : XR}
    (hx : evX F r e sto fz op = some x) : evX F s e sto fz op = some x := by
  cases op with
  | call m f args =>
    cases m with
    | pur =>
      simp only [evX, Option.map_eq_some_iff] at hx ⊢
      obtain ⟨a, ha, rfl⟩ := hx; exact ⟨a, callPure_mono h ha, rfl⟩
    | own =>
      simp only [evX, Option.map_eq_some_iff] at hx ⊢
      obtain ⟨a, ha, rfl⟩ := hx; exact ⟨a, callPure_mono h ha, rfl⟩
    | shr => exact callShared_mono h hx
  | callv c args =>
    simp only [evX] at hx ⊢
    split at hx
    · split at hx
      · rename_i hc; simp only [hc, if_true]; exact callShared_mono h hx
      · rename_i hc
        rw [if_neg hc]
        rw [Option.map_eq_some_iff] at hx ⊢
        obtain ⟨a, ha, rfl⟩ := hx; exact ⟨a, callPure_mono h ha, rfl⟩
    · cases hx
  | _ => exact hx

theorem evOps_mono {F : Tab} {r s : Task → Option Out} (h : Le r s) (ops : List XOper) :
    ∀ (st : St) (tr : List Tr) (x : St × List Tr), evOps F r ops st tr = some x → evOps F s ops st tr = some x := by
  induction ops with
  | nil => intro st tr x hx; exact hx
  | cons o l ih =>
    intro st tr x hx
    simp only [evOps] at hx ⊢
    cases hw : wanted o.guard st.env with
    | none => rw [hw] at hx; cases hx
    | some b =>
      rw [hw] at hx
      cases b with
      | false => exact ih _ _ _ hx
      | true =>
        dsimp only at hx ⊢
        cases hy : evX F r st.env st.sto st.fz o.op with
        | none => rw [hy] at hx; cases hx
        | some y =>
          rw [hy] at hx; rw [evX_mono h hy]
          dsimp only at hx ⊢
          split at hx
          · rename_i hok; rw [if_pos hok]; exact ih _ _ _ hx
          · cases hx

theorem evRegion_mono {F : Tab} {r s : Task → Option Out} (h : Le r s) {d : Option (List Nat)} {ops : List XOper} {keep : List Nat} {st st' : St}
    (hx : evRegion F r d ops keep st = some st') : evRegion F s d ops keep st = some st' := by
  unfold evRegion at hx ⊢
  cases hy : evOps F r ops st [] with
  | none => rw [hy] at hx; cases hx
  | some y => rw [hy] at hx; rw [evOps_mono h _ _ _ _ hy]; exact hx

theorem evC_mono {F : Tab} {r s : Task → Option Out} (h : Le r s) (c : XCode) :
    ∀ (st : St) (x : XExit × St), evC F r c st = some x → evC F s c st = some x := by
  induction c with
  | skip => intro st x hx; exact hx
  | region d ops keep =>
    intro st x hx
    simp only [evC, Option.map_eq_some_iff] at hx ⊢
    obtain ⟨a, ha, rfl⟩ := hx; exact ⟨a, evRegion_mono h ha, rfl⟩
  | seq a b iha ihb =>
    intro st x hx
    simp only [evC] at hx ⊢
    cases hy : evC F r a st with
    | none => rw [hy] at hx; cases hx
    | some y =>
      rw [hy] at hx; rw [iha _ _ hy]
      obtain ⟨e, st1⟩ := y
      cases e with
      | normal => exact ihb _ _ hx
      | exit i => exact hx
      | ret => exact hx
  | cond c a b iha ihb =>
    intro st x hx
    simp only [evC] at hx ⊢
    split at hx
    · exact iha _ _ hx
    · exact ihb _ _ hx
    · cases hx
  | block id b ih =>
    intro st x hx
    simp only [evC] at hx ⊢
    cases hy : evC F r b st with
    | none => rw [hy] at hx; cases hx
    | some y => rw [hy] at hx; rw [ih _ _ hy]; exact hx
  | loop live b _ =>
    intro st x hx
    simp only [evC] at hx ⊢
    split at hx
    · rename_i e st1 hr; rw [h _ _ hr]; exact hx
    · cases hx
  | exit id => intro st x hx; exact hx
  | ret => intro st x hx; exact hx

theorem step_mono {F : Tab} {r s : Task → Option Out} (h : Le r s) : Le (step F r) (step F s) := by
  intro t o ho
  cases t with
  | func f args sto fz =>
    simp only [step] at ho ⊢
    split at ho
    · rename_i x hx
      split at ho
      · rename_i hl
        simp only [hl, if_true]
        split at ho
        · rename_i st1 hc; rw [evC_mono h _ _ _ hc]; exact ho
        · rename_i st1 hc; rw [evC_mono h _ _ _ hc]; exact ho
        · cases ho
      · cases ho
    · cases ho
  | loop live b st =>
    simp only [step] at ho ⊢
    split at ho
    · cases ho
    · rename_i st1 hn
      split at ho
      · rename_i st2 hc; rw [evC_mono h _ _ _ hc]; exact h _ _ ho
      · rename_i e st2 hne hc
        rw [evC_mono h _ _ _ hc]
        cases e with
        | normal => exact absurd rfl (hne ·)
        | exit i => exact ho
        | ret => exact ho
      · cases ho

theorem run_succ (F : Tab) (n : Nat) : run F (n + 1) = step F (run F n) := rfl

theorem run_le (F : Tab) (n : Nat) : Le (run F n) (run F (n + 1)) := by
  induction n with
  | zero => intro t o h; cases h
  | succ n ih => exact step_mono ih

theorem run_mono (F : Tab) {n m : Nat} (h : n ≤ m) : Le (run F n) (run F m) := by
  induction h with
  | refl => intro t o h; exact h
  | step _ ih => intro t o h; exact run_le F _ _ _ (ih _ _ h)

/-! ### the calculus -/

def Fin (F : Tab) (t : Task) (Q : Out → Prop) : Prop := ∃ n o, run F n t = some o ∧ Q o
def WP (F : Tab) (c : XCode) (st : St) (Q : XExit → St → Prop) : Prop := ∃ n e s, evC F (run F n) c st = some (e, s) ∧ Q e s
def WO (F : Tab) (ops : List XOper) (st : St) (tr : List Tr) (Q : St → List Tr → Prop) : Prop :=
  ∃ n s t, evOps F (run F n) ops st tr = some (s, t) ∧ Q s t

variable {F : Tab}

theorem Fin.mono {t : Task} {Q R : Out → Prop} (h : Fin F t Q) (hr : ∀ o, Q o → R o) : Fin F t R :=
  let ⟨n, o, e, q⟩ := h; ⟨n, o, e, hr _ q⟩
theorem WP.mono {c : XCode} {st : St} {Q R : XExit → St → Prop} (h : WP F c st Q) (hr : ∀ e s, Q e s → R e s) : WP F c st R :=
  let ⟨n, e, s, x, q⟩ := h; ⟨n, e, s, x, hr _ _ q⟩

theorem WP.skip {st : St} {Q : XExit → St → Prop} (h : Q .normal st) : WP F .skip st Q := ⟨0, _, _, rfl, h⟩
theorem WP.ret {st : St} {Q : XExit → St → Prop} (h : Q .ret st) : WP F .ret st Q := ⟨0, _, _, rfl, h⟩
theorem WP.exit {id : Nat} {st : St} {Q : XExit → St → Prop} (h : Q (.exit id) st) : WP F (.exit id) st Q := ⟨0, _, _, rfl, h⟩

def andThen (k : St → Prop) (Q : XExit → St → Prop) : XExit → St → Prop
  | .normal, s => k s
  | e, s => Q e s

theorem WP.seq {a b : XCode} {st : St} {Q : XExit → St → Prop} (h : WP F a st (andThen (fun s => WP F b s Q) Q)) : WP F (.seq a b) st Q := by
  obtain ⟨n, e, s, he, hq⟩ := h
  cases e with
  | normal =>
    obtain ⟨m, e', s', he', hq'⟩ := hq
    refine ⟨max n m, e', s', ?_, hq'⟩
    simp only [evC]
    rw [evC_mono (run_mono F (Nat.le_max_left n m)) _ _ _ he]
    exact evC_mono (run_mono F (Nat.le_max_right n m)) _ _ _ he'
  | exit i => exact ⟨n, _, s, by simp only [evC, he], hq⟩
  | ret => exact ⟨n, _, s, by simp only [evC, he], hq⟩

theorem WP.condT {c : Opd} {a b : XCode} {st : St} {Q : XExit → St → Prop} (hc : c.ev st.env = .bool true) (h : WP F a st Q) : WP F (.cond c a b) st Q := by
  obtain ⟨n, e, s, he, hq⟩ := h
  exact ⟨n, e, s, by simp only [evC, hc, he], hq⟩
theorem WP.condF {c : Opd} {a b : XCode} {st : St} {Q : XExit → St → Prop} (hc : c.ev st.env = .bool false) (h : WP F b st Q) : WP F (.cond c a b) st Q := by
  obtain ⟨n, e, s, he, hq⟩ := h
  exact ⟨n, e, s, by simp only [evC, hc, he], hq⟩
theorem WP.cond {c : Opd} {a b : XCode} {st : St} {Q : XExit → St → Prop} (t : Bool) (hc : c.ev st.env = .bool t)
    (ha : t = true → WP F a st Q) (hb : t = false → WP F b st Q) : WP F (.cond c a b) st Q := by
  cases t
  · exact WP.condF hc (hb rfl)
  · exact WP.condT hc (ha rfl)

def inBlock (id : Nat) (Q : XExit → St → Prop) : XExit → St → Prop
  | .exit j, s => if j = id then Q .normal s else Q (.exit j) s
  | e, s => Q e s

theorem WP.block {id : Nat} {b : XCode} {st : St} {Q : XExit → St → Prop} (h : WP F b st (inBlock id Q)) : WP F (.block id b) st Q := by
  obtain ⟨n, e, s, he, hq⟩ := h
  cases e with
  | normal => exact ⟨n, _, s, by simp only [evC, he], hq⟩
  | ret => exact ⟨n, _, s, by simp only [evC, he], hq⟩
  | exit j =>
    by_cases hj : j = id
    · subst hj
      have hq' : Q .normal s := by simpa [inBlock] using hq
      exact ⟨n, .normal, s, by simp [evC, he], hq'⟩
    · have hq' : Q (.exit j) s := by simpa [inBlock, hj] using hq
      exact ⟨n, .exit j, s, by simp [evC, he, hj], hq'⟩

def keepOnly (keep : List Nat) (s : St) : St := { s with env := keep.map fun t => (t, lk t s.env) }

theorem WP.region {ops : List XOper} {keep : List Nat} {st : St} {Q : XExit → St → Prop}
    (h : WO F ops st [] (fun s _ => Q .normal (keepOnly keep s))) : WP F (.region none ops keep) st Q := by
  obtain ⟨n, s, t, he, hq⟩ := h
  exact ⟨n, .normal, _, by simp only [evC, evRegion, he]; rfl, hq⟩

theorem WP.regionD {bf : List Nat} {ops : List XOper} {keep : List Nat} {st : St} {Q : XExit → St → Prop}
    (h : WO F ops st [] (fun s t => orderOk 0 (t.reverse.zip bf) = true ∧ Q .normal (keepOnly keep s))) : WP F (.region (some bf) ops keep) st Q := by
  obtain ⟨n, s, t, he, ho, hq⟩ := h
  exact ⟨n, .normal, keepOnly keep s, by simp [evC, evRegion, he, ho, keepOnly], hq⟩

theorem WO.nil {st : St} {tr : List Tr} {Q : St → List Tr → Prop} (h : Q st tr) : WO F [] st tr Q := ⟨0, _, _, rfl, h⟩

theorem WO.op {o : XOper} {r : List XOper} {st : St} {tr : List Tr} {Q : St → List Tr → Prop} (x : Res)
    (hw : wanted o.guard st.env = some true) (hx : ∀ rec, evX F rec st.env st.sto st.fz o.op = some (.loc x)) (hok : (XR.loc x).ok st.fz = true)
    (h : WO F r ((XR.loc x).next o.dst st) ((XR.loc x).tr st.sto.length :: tr) Q) : WO F (o :: r) st tr Q := by
  obtain ⟨n, s, t, he, hq⟩ := h
  exact ⟨n, s, t, by simp only [evOps, hw, hx, hok, if_true, he], hq⟩

theorem WO.skip {o : XOper} {r : List XOper} {st : St} {tr : List Tr} {Q : St → List Tr → Prop}
    (hw : wanted o.guard st.env = some false)
    (h : WO F r { st with env := putEnv o.dst .nul st.env } (Tr.idle :: tr) Q) : WO F (o :: r) st tr Q := by
  obtain ⟨n, s, t, he, hq⟩ := h
  exact ⟨n, s, t, by simp only [evOps, hw, he], hq⟩

theorem WO.call {o : XOper} {r : List XOper} {st : St} {tr : List Tr} {Q : St → List Tr → Prop} (x : XR)
    (hw : wanted o.guard st.env = some true) (hx : ∃ n, evX F (run F n) st.env st.sto st.fz o.op = some x) (hok : x.ok st.fz = true)
    (h : WO F r (x.next o.dst st) (x.tr st.sto.length :: tr) Q) : WO F (o :: r) st tr Q := by
  obtain ⟨n, s, t, he, hq⟩ := h
  obtain ⟨m, hx⟩ := hx
  refine ⟨max n m, s, t, ?_, hq⟩
  simp only [evOps, hw]
  rw [evX_mono (run_mono F (Nat.le_max_right n m)) hx]
  dsimp only
  rw [if_pos hok]
  exact evOps_mono (run_mono F (Nat.le_max_left n m)) _ _ _ _ he

/-- A loop: at its head the state is one of a family, each round leads to a later one or out. -/
theorem WP.loop {α : Type} {live : List (Nat × Option Nat)} {b : XCode} {st : St} {Q : XExit → St → Prop} (S : α → St) (I : α → Prop) (μ : α → Nat)
    (x : α) (h0 : norm live st = some (S x)) (hI : I x)
    (round : ∀ x, I x → WP F b (S x) (andThen (fun s => ∃ y, norm live s = some (S y) ∧ I y ∧ μ y < μ x) Q)) : WP F (.loop live b) st Q := by
  have key : ∀ k x st, μ x = k → I x → norm live st = some (S x) → ∃ n e s, run F n (.loop live b st) = some (.code e s) ∧ Q e s := by
    intro k
    induction k using Nat.strongRecOn with
    | _ k ih =>
      intro x st hk hI h0
      obtain ⟨n, e, s, he, hq⟩ := round x hI
      cases e with
      | normal =>
        obtain ⟨y, hy, hIy, hlt⟩ := hq
        obtain ⟨m, e', s', hr, hq'⟩ := ih (μ y) (hk ▸ hlt) y s rfl hIy hy
        refine ⟨max n m + 1, e', s', ?_, hq'⟩
        rw [run_succ]
        simp only [step, h0]
        rw [evC_mono (run_mono F (Nat.le_max_left n m)) _ _ _ he]
        exact run_mono F (Nat.le_max_right n m) _ _ hr
      | exit i => exact ⟨n + 1, _, s, by rw [run_succ]; simp only [step, h0, he], hq⟩
      | ret => exact ⟨n + 1, _, s, by rw [run_succ]; simp only [step, h0, he], hq⟩
  obtain ⟨n, e, s, hr, hq⟩ := key _ x st rfl hI h0
  exact ⟨n, e, s, by simp only [evC, hr], hq⟩

/-- What a function's end gives. -/
def fnPost (x : XFunc) (R : PV → Sto → List Nat → Prop) : XExit → St → Prop
  | .normal, s => ∃ vs, resAll s x.res = some vs ∧ R (results1 vs) s.sto s.fz
  | .ret, s => ∃ vs, resAll s x.res = some vs ∧ R (results1 vs) s.sto s.fz
  | .exit _, _ => False

/-- A function, with the blocks that its caller shares with it. -/
def Does (F : Tab) (f : FuncId) (args : List PV) (sto : Sto) (fz : List Nat) (R : PV → Sto → List Nat → Prop) : Prop :=
  ∃ n v s z, run F n (.func f args sto fz) = some (.func v s z) ∧ R v s z

theorem Does.of {f : FuncId} {x : XFunc} {args : List PV} {sto : Sto} {fz : List Nat} {R : PV → Sto → List Nat → Prop}
    (hf : F f = some (.code x)) (hn : Nat.beq args.length x.nargs = true)
    (h : WP F x.code { env := envOf 0 args, sto, fz, kn := sto.length } (fnPost x R)) : Does F f args sto fz R := by
  obtain ⟨n, e, s, he, hq⟩ := h
  cases e with
  | normal =>
    obtain ⟨vs, hv, hr⟩ := hq
    exact ⟨n + 1, _, _, _, by rw [run_succ]; simp only [step, hf, hn, he, hv, if_true]; rfl, hr⟩
  | ret =>
    obtain ⟨vs, hv, hr⟩ := hq
    exact ⟨n + 1, _, _, _, by rw [run_succ]; simp only [step, hf, hn, he, hv, if_true]; rfl, hr⟩
  | exit i => exact hq.elim

/-- A pure function: on pure arguments it gives a pure value, without ('Pure') or with slices ('PureF'). -/
def Pure (F : Tab) (f : FuncId) (args : List PV) (v : PV) : Prop :=
  (∀ k p, F f ≠ some (.prim k p)) ∧ Does F f args [] [] fun u _ _ => u.noref = true ∧ u = v
def PureF (F : Tab) (f : FuncId) (args : List PV) (v : PV) : Prop :=
  (∀ k p, F f ≠ some (.prim k p)) ∧ Does F f args [] [] fun u s _ => u.noref = false ∧ imF s u = some v

theorem Pure.of {f : FuncId} {x : XFunc} {args : List PV} {v : PV}
    (hf : F f = some (.code x)) (hn : Nat.beq args.length x.nargs = true)
    (h : WP F x.code { env := envOf 0 args, sto := [], fz := [], kn := 0 } (fnPost x fun u _ _ => u.noref = true ∧ u = v)) :
    Pure F f args v := ⟨fun k p e => by (rw [hf] at e; cases e), Does.of hf hn h⟩

theorem PureF.of {f : FuncId} {x : XFunc} {args : List PV} {v : PV}
    (hf : F f = some (.code x)) (hn : Nat.beq args.length x.nargs = true)
    (h : WP F x.code { env := envOf 0 args, sto := [], fz := [], kn := 0 } (fnPost x fun u s _ => u.noref = false ∧ imF s u = some v)) :
    PureF F f args v := ⟨fun k p e => by (rw [hf] at e; cases e), Does.of hf hn h⟩

theorem Pure.callPure {f : FuncId} {as args : List PV} {sto : Sto} {fz : List Nat} {v : PV} (h : Pure F f args v)
    (ha : exL sto (exBx sto deep) as = some args) :
    ∃ n, Vm.callPure F (run F n) false f as sto fz = some { v, rd := toksL (toksBx sto deep) as } := by
  obtain ⟨hp, n, u, s, z, hr, h1, h2⟩ := h
  subst h2
  refine ⟨n, ?_⟩
  simp only [Vm.callPure, ha]
  cases hf : F f with
  | none => simp [hr, h1]
  | some en =>
    cases en with
    | prim k p => exact absurd hf (hp k p)
    | code x => simp [hr, h1]

theorem PureF.callPure {f : FuncId} {as args : List PV} {sto : Sto} {fz : List Nat} {v : PV} (h : PureF F f args v)
    (ha : exL sto (exBx sto deep) as = some args) :
    ∃ n, Vm.callPure F (run F n) false f as sto fz = some { v, rd := toksL (toksBx sto deep) as, fr := toksL (toksBx sto deep) as } := by
  obtain ⟨hp, n, u, s, z, hr, h1, h2⟩ := h
  refine ⟨n, ?_⟩
  simp only [Vm.callPure, ha]
  cases hf : F f with
  | none => simp [hr, h1, h2]
  | some en =>
    cases en with
    | prim k p => exact absurd hf (hp k p)
    | code x => simp [hr, h1, h2]

theorem WO.pure {d : Option Nat} {g : Option (Nat × Bool)} {f : FuncId} {as : List Opd} {r : List XOper} {st : St} {tr : List Tr} {Q : St → List Tr → Prop}
    {args : List PV} {v : PV} (h : Pure F f args v)
    (hw : wanted g st.env = some true) (ha : exL st.sto (exBx st.sto deep) (evs st.env as) = some args)
    (k : WO F r ((XR.loc { v, rd := toksL (toksBx st.sto deep) (evs st.env as) }).next d st) ((XR.loc { v, rd := toksL (toksBx st.sto deep) (evs st.env as) }).tr st.sto.length :: tr) Q) :
    WO F (⟨d, .call .pur f as, g⟩ :: r) st tr Q := by
  obtain ⟨n, hn⟩ := h.callPure (fz := st.fz) ha
  exact WO.call _ hw ⟨n, by simp only [evX, hn]; rfl⟩ rfl k

theorem WO.pureF {d : Option Nat} {g : Option (Nat × Bool)} {f : FuncId} {as : List Opd} {r : List XOper} {st : St} {tr : List Tr} {Q : St → List Tr → Prop}
    {args : List PV} {v : PV} (h : PureF F f args v)
    (hw : wanted g st.env = some true) (ha : exL st.sto (exBx st.sto deep) (evs st.env as) = some args)
    (k : WO F r ((XR.loc { v, rd := toksL (toksBx st.sto deep) (evs st.env as), fr := toksL (toksBx st.sto deep) (evs st.env as) }).next d st)
      ((XR.loc { v, rd := toksL (toksBx st.sto deep) (evs st.env as), fr := toksL (toksBx st.sto deep) (evs st.env as) }).tr st.sto.length :: tr) Q) :
    WO F (⟨d, .call .pur f as, g⟩ :: r) st tr Q := by
  obtain ⟨n, hn⟩ := h.callPure (fz := st.fz) ha
  exact WO.call _ hw ⟨n, by simp only [evX, hn]; rfl⟩ rfl k

end Go.Vm
