/- C3. -/
import Derived.Test.YtohmmcfniijjkaaMC2
namespace Go.Proofs.Ytohmmcfniijjkaa
open Go.Vm

def pows : List Nat := [1, 2, 4, 8, 16, 32, 64]
def Pb (s n : Nat) : Bool := pows.contains s && Nat.ble n s && (Nat.ble s 1 || Nat.blt s (4 * n)) && Nat.ble (sizeOf64 n) s
def phi (s n : Nat) : Nat := if s ≤ 2 * n then 2 * n - s else s / 2 - n

theorem step_all : (pows.all fun s => (List.range 65).all fun n => [true, false].all fun b => !Pb s n || (Pb (thr s n b).1 (thr s n b).2.1 && Nat.ble ((thr s n b).2.2 + phi (thr s n b).1 (thr s n b).2.1) (phi s n + 2))) = true := by decide +kernel

theorem step_inv (s n : Nat) (b : Bool) (h : Pb s n = true) : Pb (thr s n b).1 (thr s n b).2.1 = true ∧ (thr s n b).2.2 + phi (thr s n b).1 (thr s n b).2.1 ≤ phi s n + 2 := by
  have hs : s ∈ pows := by simp only [Pb, Bool.and_eq_true] at h; simpa using h.1.1.1
  have hn : n ≤ s := by simp only [Pb, Bool.and_eq_true] at h; simpa using h.1.1.2
  have hs2 : s ≤ 64 := by simp [pows] at hs; omega
  have h1 := List.all_eq_true.1 step_all s hs
  have h2 := List.all_eq_true.1 h1 n (List.mem_range.2 (by omega))
  have h3 := List.all_eq_true.1 h2 b (by cases b <;> simp)
  rw [h] at h3
  simp only [Bool.not_true, Bool.false_or, Bool.and_eq_true] at h3
  exact ⟨h3.1, by simpa using h3.2⟩

theorem stAt_inv (l : List Bool) : ∀ i, i ≤ l.length → Pb (stAt l i).1 (stAt l i).2.1 = true ∧ (stAt l i).2.2 + phi (stAt l i).1 (stAt l i).2.1 ≤ 2 * i
  | 0, _ => by simp only [stAt, List.take_zero, List.foldl_nil]; decide +kernel
  | i + 1, h => by
    obtain ⟨h1, h2⟩ := stAt_inv l i (by omega)
    obtain ⟨h3, h4⟩ := step_inv (stAt l i).1 (stAt l i).2.1 l[i] h1
    rw [stAt_succ l i (by omega)]
    refine ⟨h3, ?_⟩
    simp only [fstep]; omega

theorem stAt_fact (l : List Bool) (i : Nat) (h : i ≤ l.length) : (stAt l i).2.1 ≤ (stAt l i).1 ∧ (1 < (stAt l i).1 → (stAt l i).1 < 4 * (stAt l i).2.1) ∧ sizeOf64 (stAt l i).2.1 ≤ (stAt l i).1 ∧ (stAt l i).1 ≤ 64 := by
  have h1 := (stAt_inv l i h).1
  simp only [Pb, Bool.and_eq_true, Bool.or_eq_true, Nat.ble_eq] at h1
  obtain ⟨⟨⟨a, b⟩, c⟩, d⟩ := h1
  have hs : (stAt l i).1 ∈ pows := by simpa using a
  have hs2 : (stAt l i).1 ≤ 64 := by simp [pows] at hs; omega
  refine ⟨b, fun hh => ?_, d, hs2⟩
  rcases c with c | c
  · omega
  · simpa using c

theorem phi0 : phi 1 0 = 0 := by decide

theorem sizesAt_get (l : List Bool) : ∀ (k i : Nat), i < k → (sizesAt l k)[i]? = some [I (stAt l (i + 1)).1]
  | k + 1, i, h => by
    simp only [sizesAt]
    rcases Nat.lt_or_ge i k with h' | h'
    · rw [List.getElem?_append_left (by rw [sizesAt_len]; exact h')]
      exact sizesAt_get l k i h'
    · have : i = k := by omega
      subst this
      rw [List.getElem?_append_right (by rw [sizesAt_len]; omega), sizesAt_len]
      simp

/-- What follows in a round behind the new number. -/
def law4rest : XCode := match x4.code with
  | .seq _ (.seq _ (.seq _ (.seq _ (.seq _ (.seq _ (.seq _ (.seq (.seq _ (.block _ (.loop _ (.seq _ (.seq (.block _ (.seq _ r)) _))))) _))))))) => r
  | _ => .skip

theorem thr_n (s n : Nat) (hn : n ≤ 64) (b : Bool) : (thr s n b).2.1 = match b with | true => min 64 (n + 1) | false => n - 1 := by
  cases b
  · simp only [thr]
    split
    · split <;> rfl
    · dsimp only; omega
  · simp only [thr]
    split
    · split <;> (dsimp only; omega)
    · dsimp only; omega

def SL (l : List Bool) (i : Nat) : St :=
  { env := [(0, encB l), (3, .bool true), (4, .sl 1 false (sizesAt l l.length)), (8, I (stAt l i).2.1), (9, I i)], sto := [], fz := [], kn := 0 }

theorem isB0 {a : Bool} {b : Bool} (d : a = b) : (some ({ v := .bool a } : Res)) = some { v := .bool b } := by rw [d]

set_option maxHeartbeats 1000000 in
theorem rest_ok (l : List Bool) (i : Nat) (hlt : i < l.length) (ex0 : Env) (Q : XExit → St → Prop) (h : ∀ ex, Q .normal { env := (0, encB l) :: (3, .bool true) :: (4, .sl 1 false (sizesAt l l.length)) :: (8, I (stAt l (i + 1)).2.1) :: (9, I i) :: ex, sto := [], fz := [], kn := 0 }) :
    WP tab law4rest { env := (0, encB l) :: (3, .bool true) :: (4, .sl 1 false (sizesAt l l.length)) :: (8, I (stAt l (i + 1)).2.1) :: (9, I i) :: ex0, sto := [], fz := [], kn := 0 } Q := by
  obtain ⟨f1, f2, f3, f4⟩ := stAt_fact l (i + 1) hlt
  have hget := sizesAt_get l l.length i hlt
  show WP tab (.seq _ _) _ _
  refine WP.seq (WP.reg (WS.cons rfl rfl (WS.pure (size_pure (stAt l (i + 1)).2.1 (by omega)) rfl rfl (WS.all rfl ?_))))
  show WP tab (.seq _ _) { env := [(0, encB l), (3, .bool true), (4, .sl 1 false (sizesAt l l.length)), (8, I (stAt l (i + 1)).2.1), (9, I i), (10, I (sizeOf64 (stAt l (i + 1)).2.1)), (11, .int .i64 0)], sto := [], fz := [], kn := 0 } _
  have ld : (match (sizesAt l l.length)[i]? with
        | some cs => if Nat.beq 1 1 then some ({ v := .rptr cs 0 } : Res) else none
        | none => none) = some { v := .rptr [I (stAt l (i + 1)).1] 0 } := by rw [hget]; rfl
  have d1 : decide (Int.ofNat (stAt l (i + 1)).1 < Int.ofNat (stAt l (i + 1)).2.1) = false := decide_eq_false (by simp only [Int.ofNat_eq_natCast]; omega)
  have d3 : decide (Int.ofNat (stAt l (i + 1)).1 < Int.ofNat (sizeOf64 (stAt l (i + 1)).2.1)) = false := decide_eq_false (by simp only [Int.ofNat_eq_natCast]; omega)
  have tail : ∀ ex : Env, Q .normal { env := (0, encB l) :: (3, .bool true) :: (4, .sl 1 false (sizesAt l l.length)) :: (8, I (stAt l (i + 1)).2.1) :: (9, I i) :: ex, sto := [], fz := [], kn := 0 } := h
  by_cases hs : 1 < (stAt l (i + 1)).1
  · have dB : decide (Int.ofNat (stAt l (i + 1)).1 > 1) = true := decide_eq_true (by simp only [Int.ofNat_eq_natCast]; omega)
    have d2 : decide (Int.ofNat (stAt l (i + 1)).1 ≥ wrapF .i64 (4 * Int.ofNat (stAt l (i + 1)).2.1)) = false := decide_eq_false (by
      have := f2 hs
      rw [wrapF_i64] <;> simp only [Int.ofNat_eq_natCast] <;> omega)
    refine WP.seq (WP.reg (WS.cons rfl rfl (WS.cons rfl rfl (WS.one { v := .rptr [I (stAt l (i + 1)).1] 0 } rfl rfl ld rfl (WS.cons rfl rfl (WS.cons rfl rfl (WS.one { v := .bool false } rfl rfl (isB0 d1) rfl (WS.cons rfl rfl (WS.cons rfl rfl (WS.cons rfl rfl (WS.one { v := .rptr [I (stAt l (i + 1)).1] 0 } rfl rfl ld rfl (WS.cons rfl rfl (WS.one { v := .bool true } rfl rfl (isB0 dB) rfl (WS.cons rfl rfl (WS.cons rfl rfl (WS.cons rfl rfl (WS.one { v := .rptr [I (stAt l (i + 1)).1] 0 } rfl rfl ld rfl (WS.cons rfl rfl (WS.cons rfl rfl (WS.cons rfl rfl (WS.one { v := .bool false } rfl rfl (isB0 d2) rfl (WS.cons rfl rfl (WS.cons rfl rfl (WS.cons rfl rfl (WS.cons rfl rfl (WS.cons rfl rfl (WS.cons rfl rfl (WS.cons rfl rfl (WS.cons rfl rfl (WS.cons rfl rfl (WS.one { v := .rptr [I (stAt l (i + 1)).1] 0 } rfl rfl ld rfl (WS.cons rfl rfl (WS.cons rfl rfl (WS.one { v := .bool false } rfl rfl (isB0 d3) rfl (WS.all rfl ?_)))))))))))))))))))))))))))))))))))
    exact WP.condF rfl (WP.skip (tail [(109, .bool false)]))
  · have dB : decide (Int.ofNat (stAt l (i + 1)).1 > 1) = false := decide_eq_false (by simp only [Int.ofNat_eq_natCast]; omega)
    refine WP.seq (WP.reg (WS.cons rfl rfl (WS.cons rfl rfl (WS.one { v := .rptr [I (stAt l (i + 1)).1] 0 } rfl rfl ld rfl (WS.cons rfl rfl (WS.cons rfl rfl (WS.one { v := .bool false } rfl rfl (isB0 d1) rfl (WS.cons rfl rfl (WS.cons rfl rfl (WS.cons rfl rfl (WS.one { v := .rptr [I (stAt l (i + 1)).1] 0 } rfl rfl ld rfl (WS.cons rfl rfl (WS.one { v := .bool false } rfl rfl (isB0 dB) rfl (WS.cons rfl rfl (WS.cons rfl rfl (WS.cons rfl rfl (WS.cons rfl rfl (WS.cons rfl rfl (WS.cons rfl rfl (WS.cons rfl rfl (WS.cons rfl rfl (WS.cons rfl rfl (WS.cons rfl rfl (WS.cons rfl rfl (WS.cons rfl rfl (WS.cons rfl rfl (WS.cons rfl rfl (WS.cons rfl rfl (WS.cons rfl rfl (WS.cons rfl rfl (WS.one { v := .rptr [I (stAt l (i + 1)).1] 0 } rfl rfl ld rfl (WS.cons rfl rfl (WS.cons rfl rfl (WS.one { v := .bool false } rfl rfl (isB0 d3) rfl (WS.all rfl ?_)))))))))))))))))))))))))))))))))))
    exact WP.condF rfl (WP.skip (tail [(109, .bool false)]))

theorem isB {a : Bool} {b : Bool} (d : a = b) : (some ({ v := .bool a } : Res)) = some { v := .bool b } := by rw [d]

set_option maxHeartbeats 1000000 in
theorem law4 (l : List Bool) : Does tab 4 [encB l] [] [] fun v _ _ => v = .bool true := by
  refine Does.of tab_4 rfl ?_
  unfold x4
  refine WP.seq (WP.regAll rfl (WP.seq (WP.reg (WS.pure alive_pure rfl rfl (WS.all rfl ?_)))))
  show WP tab _ { env := [(0, encB l), (3, .bool true)], sto := [], fz := [], kn := 0 } _
  refine WP.seq (WP.seq ?_)
  by_cases hl : l.length ≤ 300
  case neg =>
    have d1 : decide (Int.ofNat (l.map fun b => [PV.bool b]).length > 300) = true := decide_eq_true (by simp only [List.length_map, Int.ofNat_eq_natCast]; omega)
    refine WP.reg (WS.cons rfl rfl (WS.cons rfl rfl (WS.one { v := .bool true } rfl rfl (isB d1) rfl (WS.all rfl ?_))))
    exact WP.condT rfl (WP.seq (WP.regAll rfl (WP.ret ⟨_, rfl, rfl⟩)))
  have d1 : decide (Int.ofNat (l.map fun b => [PV.bool b]).length > 300) = false := decide_eq_false (by simp only [List.length_map, Int.ofNat_eq_natCast]; omega)
  refine WP.reg (WS.cons rfl rfl (WS.cons rfl rfl (WS.one { v := .bool false } rfl rfl (isB d1) rfl (WS.all rfl ?_))))
  refine WP.condF rfl (WP.skip ?_)
  show WP tab _ { env := [(0, encB l), (3, .bool true), (19, .bool false)], sto := [], fz := [], kn := 0 } _
  refine WP.seq (WP.reg (WS.cons rfl rfl (WS.pureF (sizes_pure l (by omega)) rfl rfl (WS.all rfl ?_))))
  show WP tab _ { env := [(0, encB l), (3, .bool true), (4, .sl 1 false (sizesAt l l.length)), (5, .int .i64 0)], sto := [], fz := [], kn := 0 } _
  refine WP.seq (WP.reg (WS.cons rfl rfl (WS.pure (moves_pure l (by omega)) rfl rfl (WS.all rfl ?_))))
  show WP tab _ { env := [(0, encB l), (3, .bool true), (4, .sl 1 false (sizesAt l l.length)), (5, .int .i64 0), (6, I (stAt l l.length).2.2), (7, .int .i64 0)], sto := [], fz := [], kn := 0 } _
  have hsl := sizesAt_len l l.length
  have hm := (stAt_inv l l.length (Nat.le_refl _)).2
  have d2 : (Int.ofNat (sizesAt l l.length).length != Int.ofNat (l.map fun b => [PV.bool b]).length) = false := by simp [hsl]
  have d3 : decide (Int.ofNat (stAt l l.length).2.2 < 0) = false := decide_eq_false (by simp only [Int.ofNat_eq_natCast]; omega)
  have d4 : decide (Int.ofNat (stAt l l.length).2.2 > wrapF .i64 (2 * Int.ofNat (l.map fun b => [PV.bool b]).length)) = false := decide_eq_false (by
    rw [wrapF_i64] <;> simp only [List.length_map, Int.ofNat_eq_natCast] <;> omega)
  refine WP.seq (WP.seq (WP.reg (WS.cons rfl rfl (WS.cons rfl rfl (WS.cons rfl rfl (WS.cons rfl rfl (WS.cons rfl rfl (WS.cons rfl rfl (WS.cons rfl rfl (WS.cons rfl rfl (WS.cons rfl rfl (WS.cons rfl rfl (WS.cons rfl rfl (WS.one { v := .bool false } rfl rfl (isB d2) rfl
    (WS.cons rfl rfl (WS.cons rfl rfl (WS.cons rfl rfl (WS.one { v := .bool false } rfl rfl (isB d3) rfl (WS.cons rfl rfl (WS.cons rfl rfl (WS.cons rfl rfl (WS.cons rfl rfl (WS.cons rfl rfl (WS.cons rfl rfl (WS.one { v := .bool false } rfl rfl (isB d4) rfl (WS.all rfl ?_))))))))))))))))))))))))))
  refine WP.condF rfl (WP.skip ?_)
  show WP tab _ { env := [(0, encB l), (3, .bool true), (4, .sl 1 false (sizesAt l l.length)), (54, .bool false)], sto := [], fz := [], kn := 0 } _
  refine WP.seq (WP.regAll rfl (WP.seq (WP.seq (WP.regAll rfl ?_))))
  refine WP.block (WP.loop (SL l) (fun i => i ≤ l.length) (fun i => l.length - i) 0 rfl (Nat.zero_le _) ?_)
  intro i hi
  obtain ⟨b1, b2, b3⟩ := stAt_le l i hi
  refine WP.seq (WP.seq (WP.regAll rfl ?_))
  refine WP.cond (decide (Int.ofNat i < Int.ofNat (l.map fun b => [PV.bool b]).length)) rfl (fun hc => ?_) (fun hc => ?_)
  rotate_left
  · refine WP.exit ?_
    exact WP.seq (WP.regAll rfl (WP.ret ⟨_, rfl, rfl⟩))
  have hlt : i < l.length := by have := of_decide_eq_true hc; simp only [List.length_map, Int.ofNat_eq_natCast] at this; omega
  have hget : (l.map fun b => [PV.bool b])[i]? = some [.bool l[i]] := by simp [hlt]
  refine WP.skip ?_
  show WP tab _ { env := [(0, encB l), (3, .bool true), (4, .sl 1 false (sizesAt l l.length)), (8, I (stAt l i).2.1), (9, I i), (58, .bool (decide (Int.ofNat i < Int.ofNat (l.map fun b => [PV.bool b]).length)))], sto := [], fz := [], kn := 0 } _
  refine WP.seq (WP.block (WP.seq (WP.seq (WP.reg (WS.cons rfl rfl (WS.cons rfl rfl (WS.one { v := .rptr [.bool l[i]] 0 } rfl rfl ?_ rfl (WS.all rfl ?_))))))))
  · show (match (l.map fun b => [PV.bool b])[i]? with
      | some cs => if Nat.beq 1 1 then some ({ v := .rptr cs 0 } : Res) else none
      | none => none) = _
    rw [hget]; rfl
  have e1 : wrapF .i64 (Int.ofNat i + 1) = Int.ofNat (i + 1) := by rw [wrapF_i64] <;> simp only [Int.ofNat_eq_natCast] <;> omega
  have hn0 : (stAt l (i + 1)).2.1 = (thr (stAt l i).1 (stAt l i).2.1 l[i]).2.1 := by rw [stAt_succ l i hlt]; rfl
  rw [thr_n _ _ b2] at hn0
  refine WP.cond l[i] rfl (fun hb => WP.regAll rfl ?_) (fun hb => WP.regAll rfl ?_)
  · show WP tab law4rest { env := [(0, encB l), (3, .bool true), (4, .sl 1 false (sizesAt l l.length)), (8, .int .i64 (if wrapF .i64 (Int.ofNat (stAt l i).2.1 + 1) < 64 then wrapF .i64 (Int.ofNat (stAt l i).2.1 + 1) else 64)), (9, I i)], sto := [], fz := [], kn := 0 } _
    rw [hb] at hn0
    have e : (if wrapF .i64 (Int.ofNat (stAt l i).2.1 + 1) < 64 then wrapF .i64 (Int.ofNat (stAt l i).2.1 + 1) else 64) = Int.ofNat (stAt l (i + 1)).2.1 := by
      rw [hn0]
      rw [wrapF_i64 (by simp only [Int.ofNat_eq_natCast]; omega) (by simp only [Int.ofNat_eq_natCast]; omega)]
      split <;> simp only [Int.ofNat_eq_natCast] at * <;> omega
    · rw [e]
      refine rest_ok l i hlt [] _ fun ex => ?_
      refine WP.regAll rfl ?_
      refine ⟨i + 1, ?_, hlt, by omega⟩
      show norm _ { env := [(0, encB l), (3, .bool true), (4, .sl 1 false (sizesAt l l.length)), (8, I (stAt l (i + 1)).2.1), (9, .int .i64 (wrapF .i64 (Int.ofNat i + 1)))], sto := [], fz := [], kn := 0 } = _
      rw [e1]; rfl
  · show WP tab law4rest { env := [(0, encB l), (3, .bool true), (4, .sl 1 false (sizesAt l l.length)), (8, .int .i64 (if wrapF .i64 (Int.ofNat (stAt l i).2.1 - 1) > 0 then wrapF .i64 (Int.ofNat (stAt l i).2.1 - 1) else 0)), (9, I i)], sto := [], fz := [], kn := 0 } _
    rw [hb] at hn0
    have e : (if wrapF .i64 (Int.ofNat (stAt l i).2.1 - 1) > 0 then wrapF .i64 (Int.ofNat (stAt l i).2.1 - 1) else 0) = Int.ofNat (stAt l (i + 1)).2.1 := by
      rw [hn0]
      rw [wrapF_i64 (by simp only [Int.ofNat_eq_natCast]; omega) (by simp only [Int.ofNat_eq_natCast]; omega)]
      split <;> simp only [Int.ofNat_eq_natCast] at * <;> omega
    · rw [e]
      refine rest_ok l i hlt [] _ fun ex => ?_
      refine WP.regAll rfl ?_
      refine ⟨i + 1, ?_, hlt, by omega⟩
      show norm _ { env := [(0, encB l), (3, .bool true), (4, .sl 1 false (sizesAt l l.length)), (8, I (stAt l (i + 1)).2.1), (9, .int .i64 (wrapF .i64 (Int.ofNat i + 1)))], sto := [], fz := [], kn := 0 } = _
      rw [e1]; rfl
end Go.Proofs.Ytohmmcfniijjkaa
