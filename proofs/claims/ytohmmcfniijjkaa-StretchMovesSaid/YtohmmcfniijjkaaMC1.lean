/- C1. -/
import Derived.Test.YtohmmcfniijjkaaMX1
import Derived.Test.YtohmmcfniijjkaaMVmSym
namespace Go.Proofs.Ytohmmcfniijjkaa
open Go.Vm

def sizeUp : Nat → Nat → Nat → Nat
  | 0, s, _ => s
  | k + 1, s, n => if s < n then sizeUp k (2 * s) n else s
def sizeOf64 (n : Nat) : Nat := sizeUp 7 1 n

def isTup (a b : Nat) : Option Out → Bool
  | some (.func (.tup [.int .i64 (.ofNat x), .int .i64 (.ofNat y)]) _ _) => Nat.beq x a && Nat.beq y b
  | _ => false

theorem size_run (n : Nat) (hn : n ≤ 64) : isTup (sizeOf64 n) 0 (run tab 12 (.func 5 [.int .i64 (.ofNat n)] [] [])) = true := by
  have : ∀ n, n < 65 → isTup (sizeOf64 n) 0 (run tab 12 (.func 5 [.int .i64 (.ofNat n)] [] [])) = true := by decide +kernel
  exact this n (by omega)
theorem size_pure (n : Nat) (hn : n ≤ 64) : Pure tab 5 [.int .i64 (.ofNat n)] (.tup [.int .i64 (.ofNat (sizeOf64 n)), .int .i64 0]) := by
  refine ⟨fun k p h => (by rw [tab_5] at h; cases h), ?_⟩
  have h := size_run n hn
  unfold isTup at h
  split at h
  · rename_i x y s z hr
    simp only [Bool.and_eq_true] at h
    have h1 : x = sizeOf64 n := by simpa using h.1
    have h2 : y = 0 := by simpa using h.2
    subst h1 h2
    exact ⟨_, _, _, _, hr, rfl, rfl⟩
  · cases h

/-- The callback of Moves. -/
theorem cb_moves (v m : Int) (a b : Int) (hm1 : -9223372036854775808 ≤ m + b) (hm2 : m + b < 9223372036854775808) (sto : Sto) :
    Does tab 16 [.int .i64 a, .int .i64 b, .ptr 0 1 0 0] (.box [.int .i64 m] :: sto) [] fun v s z => s = .box [.int .i64 (m + b)] :: sto ∧ z = [] := by
  refine Does.of tab_16 rfl ?_
  unfold x16
  refine WP.regAll rfl ?_
  exact ⟨_, rfl, congrArg (fun q => Blk.box [.int .i64 q] :: sto) (wrapF_i64 hm1 hm2), rfl⟩

/-- The callback of Sizes: first call, later calls. -/
theorem cb_sizes0 (a b : Int) :
    Does tab 14 [.int .i64 a, .int .i64 b, .ptr 0 1 0 0] [.box [.sl 1 true []]] [] fun v s z => s = [.box [.own 2 1 0 1 1 false], .arr 1 [[.int .i64 a]], .arr 1 [[.int .i64 a]]] ∧ z = [] := by
  refine Does.of tab_14 rfl ?_
  unfold x14
  refine WP.regAll rfl ?_
  exact ⟨_, rfl, rfl, rfl⟩
theorem cb_sizes1 (a b : Int) (l : List Row) (hl : l.length < 1048576) :
    Does tab 14 [.int .i64 a, .int .i64 b, .ptr 0 1 0 0] [.box [.own 1 1 0 l.length l.length false], .arr 1 l] [] fun v s z => s = [.box [.own 3 1 0 (l.length + 1) (l.length + 1) false], .dead, .arr 1 [[.int .i64 a]], .arr 1 (l ++ [[.int .i64 a]])] ∧ z = [] := by
  refine Does.of tab_14 rfl ?_
  unfold x14
  have h1 : Nat.ble (l.length + 1) l.length = false := by
    cases h : Nat.ble (l.length + 1) l.length with
    | false => rfl
    | true => have := Nat.le_of_ble_eq_true h; omega
  have h2 : Nat.ble (l.length + 1) most = true := by simp [most]; omega
  have happ : appendE [.box [.own 1 1 0 l.length l.length false], .arr 1 l, .arr 1 [[.int .i64 a]]] [] 1 (.own 1 1 0 l.length l.length false) (.own 2 1 0 1 1 true) = some { v := .own 3 1 0 (l.length + 1) (l.length + 1) false, news := [.arr 1 (l ++ [[.int .i64 a]])], wr := [(1, .dead)], rd := [2] } := by
    simp [appendE, rowsOf, tokOf, h1, has, most]
    omega
  refine WP.reg (WS.cons rfl rfl (WS.cons rfl rfl (WS.cons rfl rfl (WS.one _ rfl rfl happ rfl (WS.cons rfl rfl (WS.nil ?_))))))
  exact ⟨_, rfl, rfl, rfl⟩

def thr (s n : Nat) : Bool → Nat × Nat × Nat
  | true => if n < 64 then (if n = s then (2 * s, n + 1, n) else (s, n + 1, 0)) else (s, n, 0)
  | false => if 0 < n then (if 1 < s ∧ 4 * (n - 1) ≤ s then (s / 2, n - 1, n - 1) else (s, n - 1, 0)) else (s, n, 0)

def I (n : Nat) : PV := .int .i64 (Int.ofNat n)

/-- The middle of a round of 'through': the block 2, from the value of the change to the new size, number and moves. -/
def mid : XCode := match x13.code with
  | .seq _ (.seq _ (.block _ (.loop _ (.seq _ (.seq _ (.seq (.block _ (.seq _ (.seq _ (.seq m _)))) _)))))) => m
  | _ => .skip

theorem mid_ok (s n : Nat) (hs : s ≤ 128) (hn : n ≤ 64) (b : Bool) (c l z i : PV) (sto : Sto) (kn : Nat) (Q : XExit → St → Prop)
    (h : ∀ ex, Q .normal { env := (1, c) :: (4, I (thr s n b).1) :: (5, I (thr s n b).2.1) :: (8, I (thr s n b).2.2) :: (9, l) :: (10, z) :: (11, i) :: ex, sto, fz := [], kn }) :
    WP tab mid { env := [(1, c), (4, I s), (5, I n), (7, .bool b), (8, I 0), (9, l), (10, z), (11, i)], sto, fz := [], kn } Q := by
  show WP tab (.block 2 _) _ _
  refine WP.block ?_
  refine WP.seq ?_
  have wr : ∀ {k : Int} {m : Nat}, k = Int.ofNat m → m < 1000 → wrapF .i64 k = Int.ofNat m := by
    intro k m hk hm
    subst hk
    rw [wrapF_i64] <;> simp only [Int.ofNat_eq_natCast] <;> omega
  have fin : ∀ (ex : Env) (x y : Int) (u : Nat), x = Int.ofNat (thr s n b).1 → y = Int.ofNat (thr s n b).2.1 → u = (thr s n b).2.2 → Q .normal { env := (1, c) :: (4, .int .i64 x) :: (5, .int .i64 y) :: (8, I u) :: (9, l) :: (10, z) :: (11, i) :: ex, sto, fz := [], kn } := by
    intro ex x y u hx hy hu
    subst hx hy hu; exact h ex
  cases b with
  | true =>
    refine WP.regAll rfl ?_
    refine WP.cond (decide (Int.ofNat n < 64)) rfl (fun hc => ?_) (fun hc => ?_)
    · have hn2 : n < 64 := by have := of_decide_eq_true hc; simp only [Int.ofNat_eq_natCast] at this; omega
      refine WP.seq (WP.seq (WP.regAll rfl ?_))
      refine WP.cond (Int.ofNat n == Int.ofNat s) rfl (fun hd => ?_) (fun hd => ?_)
      · have hns : n = s := Int.ofNat.inj (eq_of_beq hd)
        refine WP.regAll rfl (WP.regAll rfl ?_)
        have e : thr s n true = (2 * s, n + 1, n) := by simp [thr, hns]; omega
        exact fin [] (wrapF .i64 (2 * Int.ofNat s)) (wrapF .i64 (Int.ofNat n + 1)) n (by rw [e]; exact wr (by simp only [Int.ofNat_eq_natCast]; omega) (by dsimp only; omega)) (by rw [e]; exact wr (by simp only [Int.ofNat_eq_natCast]; omega) (by dsimp only; omega)) (by rw [e])
      · have hns : ¬ n = s := by intro e; subst e; simp at hd
        refine WP.skip (WP.regAll rfl ?_)
        have e : thr s n true = (s, n + 1, 0) := by simp [thr, hn2, hns]
        exact fin [] (Int.ofNat s) (wrapF .i64 (Int.ofNat n + 1)) 0 (by rw [e]) (by rw [e]; exact wr (by simp only [Int.ofNat_eq_natCast]; omega) (by dsimp only; omega)) (by rw [e])
    · have hn2 : ¬ n < 64 := by have := of_decide_eq_false hc; simp only [Int.ofNat_eq_natCast] at this; omega
      refine WP.seq (WP.regAll rfl (WP.condF rfl (WP.skip ?_)))
      have e : thr s n true = (s, n, 0) := by simp [thr, hn2]
      exact fin [(29, .bool false)] (Int.ofNat s) (Int.ofNat n) 0 (by rw [e]) (by rw [e]) (by rw [e])
  | false =>
    refine WP.regAll rfl (WP.condF rfl (WP.seq (WP.regAll rfl ?_)))
    refine WP.cond (decide (Int.ofNat n > 0)) rfl (fun hc => ?_) (fun hc => ?_)
    · have hn2 : 0 < n := by have := of_decide_eq_true hc; simp only [Int.ofNat_eq_natCast] at this; omega
      refine WP.seq (WP.regAll rfl (WP.seq ?_))
      have w1 : wrapF .i64 (Int.ofNat n - 1) = Int.ofNat (n - 1) := wr (by simp only [Int.ofNat_eq_natCast]; omega) (by omega)
      have w2 : wrapF .i64 (4 * Int.ofNat (n - 1)) = Int.ofNat (4 * (n - 1)) := wr (by simp only [Int.ofNat_eq_natCast]; omega) (by omega)
      show WP tab _ { env := [(1, c), (4, I s), (5, .int .i64 (wrapF .i64 (Int.ofNat n - 1))), (8, I 0), (9, l), (10, z), (11, i)], sto, fz := [], kn } _
      rw [w1]
      by_cases hs1 : 1 < s
      · have d1 : decide (Int.ofNat s > 1) = true := decide_eq_true (by simp only [Int.ofNat_eq_natCast]; omega)
        refine WP.reg (WS.cons rfl rfl (WS.cons rfl (st' := { env := [(39, .bool true), (38, I s), (1, c), (4, I s), (5, I (n - 1)), (8, I 0), (9, l), (10, z), (11, i)], sto, fz := [], kn }) (by rw [← d1]; rfl) (WS.all rfl ?_)))
        refine WP.cond (decide (wrapF .i64 (4 * Int.ofNat (n - 1)) ≤ Int.ofNat s)) rfl (fun hd => ?_) (fun hd => ?_)
        · have hle : 4 * (n - 1) ≤ s := by have := of_decide_eq_true hd; rw [w2] at this; simp only [Int.ofNat_eq_natCast] at this; omega
          refine WP.regAll rfl ?_
          have e : thr s n false = (s / 2, n - 1, n - 1) := by simp [thr, hn2, hs1, hle]
          exact fin [] (wrapF .i64 ((Int.ofNat s).tdiv 2)) (Int.ofNat (n - 1)) (n - 1) (by rw [e]; exact wr rfl (by dsimp only; omega)) (by rw [e]) (by rw [e])
        · have hle : ¬ 4 * (n - 1) ≤ s := by have := of_decide_eq_false hd; rw [w2] at this; simp only [Int.ofNat_eq_natCast] at this; omega
          refine WP.skip ?_
          have e : thr s n false = (s, n - 1, 0) := by simp [thr, hn2, hle]
          exact fin [(45, .bool (decide (wrapF .i64 (4 * Int.ofNat (n - 1)) ≤ Int.ofNat s)))] (Int.ofNat s) (Int.ofNat (n - 1)) 0 (by rw [e]) (by rw [e]) (by rw [e])
      · have d1 : decide (Int.ofNat s > 1) = false := decide_eq_false (by simp only [Int.ofNat_eq_natCast]; omega)
        refine WP.reg (WS.cons rfl rfl (WS.cons rfl (st' := { env := [(39, .bool false), (38, I s), (1, c), (4, I s), (5, I (n - 1)), (8, I 0), (9, l), (10, z), (11, i)], sto, fz := [], kn }) (by rw [← d1]; rfl) (WS.all rfl ?_)))
        refine WP.condF rfl (WP.skip ?_)
        have e : thr s n false = (s, n - 1, 0) := by simp [thr, hn2, hs1]
        exact fin [(45, .bool false)] (Int.ofNat s) (Int.ofNat (n - 1)) 0 (by rw [e]) (by rw [e]) (by rw [e])
    · have hn2 : ¬ 0 < n := by have := of_decide_eq_false hc; simp only [Int.ofNat_eq_natCast] at this; omega
      refine WP.skip ?_
      have e : thr s n false = (s, n, 0) := by simp [thr, hn2]
      exact fin [(29, .bool (decide (Int.ofNat n > 0)))] (Int.ofNat s) (Int.ofNat n) 0 (by rw [e]) (by rw [e]) (by rw [e])

theorem Does.mono {F : Tab} {f : FuncId} {args : List PV} {sto : Sto} {fz : List Nat} {R R' : PV → Sto → List Nat → Prop} (h : Does F f args sto fz R) (hr : ∀ v s z, R v s z → R' v s z) : Does F f args sto fz R' :=
  let ⟨n, v, s, z, h1, h2⟩ := h; ⟨n, v, s, z, h1, hr _ _ _ h2⟩

def fstep (t : Nat × Nat × Nat) (b : Bool) : Nat × Nat × Nat := ((thr t.1 t.2.1 b).1, (thr t.1 t.2.1 b).2.1, t.2.2 + (thr t.1 t.2.1 b).2.2)
def stAt (l : List Bool) (i : Nat) : Nat × Nat × Nat := (l.take i).foldl fstep (1, 0, 0)

theorem thr_le (s n : Nat) (b : Bool) (hs : s ≤ 128) (hn : n ≤ 64) : (thr s n b).1 ≤ 128 ∧ (thr s n b).2.1 ≤ 64 ∧ (thr s n b).2.2 ≤ 64 := by
  cases b <;> simp only [thr]
  · split
    · split
      · refine ⟨?_, ?_, ?_⟩ <;> dsimp only <;> omega
      · refine ⟨?_, ?_, ?_⟩ <;> dsimp only <;> omega
    · refine ⟨?_, ?_, ?_⟩ <;> dsimp only <;> omega
  · split
    · split
      · refine ⟨?_, ?_, ?_⟩ <;> dsimp only <;> omega
      · refine ⟨?_, ?_, ?_⟩ <;> dsimp only <;> omega
    · refine ⟨?_, ?_, ?_⟩ <;> dsimp only <;> omega

theorem stAt_succ (l : List Bool) (i : Nat) (h : i < l.length) : stAt l (i + 1) = fstep (stAt l i) l[i] := by
  unfold stAt
  rw [List.take_succ_eq_append_getElem h, List.foldl_append]
  rfl

theorem stAt_le (l : List Bool) : ∀ i, i ≤ l.length → (stAt l i).1 ≤ 128 ∧ (stAt l i).2.1 ≤ 64 ∧ (stAt l i).2.2 ≤ 64 * i
  | 0, _ => by simp [stAt]
  | i + 1, h => by
    obtain ⟨h1, h2, h3⟩ := stAt_le l i (by omega)
    obtain ⟨h4, h5, h6⟩ := thr_le (stAt l i).1 (stAt l i).2.1 l[i] h1 h2
    rw [stAt_succ l i (by omega)]
    refine ⟨h4, h5, ?_⟩
    simp only [fstep]; omega

def encB (l : List Bool) : PV := .sl 1 false (l.map fun b => [.bool b])

def SM (l : List Bool) (i : Nat) : St :=
  { env := [(1, .clo 16 [] [.ptr 0 1 0 0]), (4, I (stAt l i).1), (5, I (stAt l i).2.1), (9, encB l), (10, I l.length), (11, I i)], sto := [.box [I (stAt l i).2.2]], fz := [], kn := 1 }

theorem thr_moves (l : List Bool) (hl : l.length ≤ 1000) : Does tab 13 [encB l, .clo 16 [] [.ptr 0 1 0 0]] [.box [I 0]] [] fun v s z => v = .tup [] ∧ s = [.box [I (stAt l l.length).2.2]] ∧ z = [] := by
  refine Does.of tab_13 rfl ?_
  unfold x13
  refine WP.seq (WP.regAll rfl (WP.seq (WP.regAll rfl ?_)))
  refine WP.block ?_
  refine WP.loop (SM l) (fun i => i ≤ l.length) (fun i => l.length - i) 0 ?_ (Nat.zero_le _) ?_
  · show norm _ { env := [(1, .clo 16 [] [.ptr 0 1 0 0]), (4, I 1), (5, I 0), (9, encB l), (10, .int .i64 (Int.ofNat (l.map fun b => [PV.bool b]).length)), (11, I 0)], sto := [.box [I 0]], fz := [], kn := 1 } = _
    rw [List.length_map]; rfl
  intro i hi
  obtain ⟨b1, b2, b3⟩ := stAt_le l i hi
  refine WP.seq (WP.regAll rfl (WP.seq ?_))
  refine WP.cond (decide (Int.ofNat i < Int.ofNat l.length)) rfl (fun hc => ?_) (fun hc => ?_)
  · have hlt : i < l.length := by have := of_decide_eq_true hc; simp only [Int.ofNat_eq_natCast] at this; omega
    have hget : (l.map fun b => [PV.bool b])[i]? = some [.bool l[i]] := by simp [hlt]
    refine WP.skip (WP.seq (WP.block (WP.seq (WP.reg (WS.one { v := .rptr [.bool l[i]] 0 } rfl rfl ?_ rfl (WS.all rfl ?_))))))
    · show (match (l.map fun b => [PV.bool b])[i]? with
        | some cs => if Nat.beq 1 1 then some ({ v := .rptr cs 0 } : Res) else none
        | none => none) = _
      rw [hget]; rfl
    refine WP.seq (WP.regAll rfl (WP.seq ?_))
    refine mid_ok (stAt l i).1 (stAt l i).2.1 b1 b2 l[i] _ _ _ _ _ _ _ fun ex => ?_
    obtain ⟨_, _, c3⟩ := thr_le (stAt l i).1 (stAt l i).2.1 l[i] b1 b2
    refine WP.reg (WS.cons rfl rfl (WS.cons rfl rfl (WS.cons rfl rfl (WS.shrv rfl rfl rfl ?_))))
    refine Does.mono (cb_moves 0 (Int.ofNat (stAt l i).2.2) (Int.ofNat (thr (stAt l i).1 (stAt l i).2.1 l[i]).1) (Int.ofNat (thr (stAt l i).1 (stAt l i).2.1 l[i]).2.2) (by simp only [Int.ofNat_eq_natCast]; omega) (by simp only [Int.ofNat_eq_natCast]; omega) []) ?_
    intro v s' z ⟨h1, h2⟩
    subst h1 h2
    refine ⟨rfl, WS.nil ?_⟩
    refine WP.regAll rfl ?_
    refine ⟨i + 1, ?_, hlt, by omega⟩
    have e1 : wrapF .i64 (Int.ofNat i + 1) = Int.ofNat (i + 1) := by rw [wrapF_i64] <;> simp only [Int.ofNat_eq_natCast] <;> omega
    show norm _ { env := [(1, .clo 16 [] [.ptr 0 1 0 0]), (4, I (thr (stAt l i).1 (stAt l i).2.1 l[i]).1), (5, I (thr (stAt l i).1 (stAt l i).2.1 l[i]).2.1), (9, encB l), (10, I l.length), (11, .int .i64 (wrapF .i64 (Int.ofNat i + 1)))], sto := [.box [I ((stAt l i).2.2 + (thr (stAt l i).1 (stAt l i).2.1 l[i]).2.2)]], fz := [], kn := 1 } = _
    rw [e1]
    unfold SM
    rw [stAt_succ l i hlt]
    rfl
  · have hlt : ¬ i < l.length := by have := of_decide_eq_false hc; simp only [Int.ofNat_eq_natCast] at this; omega
    have hi2 : i = l.length := by omega
    subst hi2
    refine WP.exit ?_
    exact ⟨[], rfl, rfl, rfl, rfl⟩
end Go.Proofs.Ytohmmcfniijjkaa
