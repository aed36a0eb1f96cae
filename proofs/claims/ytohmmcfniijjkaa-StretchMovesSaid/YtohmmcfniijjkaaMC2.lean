/- C2. -/
import Derived.Test.YtohmmcfniijjkaaMC1
namespace Go.Proofs.Ytohmmcfniijjkaa
open Go.Vm

def isTrue : Option Out → Bool
  | some (.func (.bool true) _ _) => true
  | _ => false

theorem alive_run : isTrue (run tab 40 (.func 12 [] [] [])) = true := by decide +kernel
theorem alive_pure : Pure tab 12 [] (.bool true) := by
  refine ⟨fun k p h => (by rw [tab_12] at h; cases h), ?_⟩
  have h := alive_run
  unfold isTrue at h
  split at h
  · rename_i s z hr
    exact ⟨_, _, _, _, hr, rfl, rfl⟩
  · cases h

theorem moves_pure (l : List Bool) (hl : l.length ≤ 1000) : Pure tab 9 [encB l] (.tup [I (stAt l l.length).2.2, .int .i64 0]) := by
  refine Pure.of tab_9 rfl ?_
  unfold x9
  refine WP.seq (WP.regAll rfl (WP.seq (WP.seq (WP.regAll rfl ?_))))
  refine WP.cond (decide (Int.ofNat (l.map fun b => [PV.bool b]).length > 1000)) rfl (fun hc => ?_) (fun hc => WP.skip ?_)
  · exfalso
    have := of_decide_eq_true hc
    simp only [List.length_map, Int.ofNat_eq_natCast] at this; omega
  refine WP.seq (WP.regAll rfl (WP.seq (WP.reg (WS.cons rfl rfl (WS.cons rfl rfl (WS.shr rfl (Does.mono (thr_moves l hl) ?_)))))))
  intro v s z ⟨h1, h2, h3⟩
  subst h1 h2 h3
  refine ⟨rfl, WS.nil ?_⟩
  refine WP.seq (WP.regAll rfl (WP.ret ?_))
  exact ⟨_, rfl, rfl, rfl⟩

/-- The sizes. -/
def sizesAt (l : List Bool) : Nat → List Row
  | 0 => []
  | i + 1 => sizesAt l i ++ [[I (stAt l (i + 1)).1]]

theorem sizesAt_len (l : List Bool) : ∀ i, (sizesAt l i).length = i
  | 0 => rfl
  | i + 1 => by simp [sizesAt, sizesAt_len l i]

def SS (l : List Bool) (i : Nat) : St :=
  { env := [(1, .clo 14 [] [.ptr 0 1 0 0]), (4, I (stAt l i).1), (5, I (stAt l i).2.1), (9, encB l), (10, I l.length), (11, I i)], sto := (match i with
    | 0 => [.box [.sl 1 true []]]
    | j + 1 => [.box [.own 1 1 0 (sizesAt l (j + 1)).length (sizesAt l (j + 1)).length false], .arr 1 (sizesAt l (j + 1))]), fz := [], kn := 1 }

theorem thr_sizes (l : List Bool) (hl : l.length ≤ 1000) : Does tab 13 [encB l, .clo 14 [] [.ptr 0 1 0 0]] [.box [.sl 1 true []]] [] fun v s z => v = .tup [] ∧ s = (SS l l.length).sto ∧ z = [] := by
  refine Does.of tab_13 rfl ?_
  unfold x13
  refine WP.seq (WP.regAll rfl (WP.seq (WP.regAll rfl ?_)))
  refine WP.block ?_
  refine WP.loop (SS l) (fun i => i ≤ l.length) (fun i => l.length - i) 0 ?_ (Nat.zero_le _) ?_
  · show norm _ { env := [(1, .clo 14 [] [.ptr 0 1 0 0]), (4, I 1), (5, I 0), (9, encB l), (10, .int .i64 (Int.ofNat (l.map fun b => [PV.bool b]).length)), (11, I 0)], sto := [.box [.sl 1 true []]], fz := [], kn := 1 } = _
    rw [List.length_map]; rfl
  intro i hi
  obtain ⟨b1, b2, b3⟩ := stAt_le l i hi
  refine WP.seq (WP.regAll rfl (WP.seq ?_))
  refine WP.cond (decide (Int.ofNat i < Int.ofNat l.length)) rfl (fun hc => ?_) (fun hc => ?_)
  · have hlt : i < l.length := by have := of_decide_eq_true hc; simp only [Int.ofNat_eq_natCast] at this; omega
    have hget : (l.map fun b => [PV.bool b])[i]? = some [.bool l[i]] := by simp [hlt]
    refine WP.skip (WP.seq (WP.block (WP.seq (WP.reg (WS.one { v := .rptr [.bool l[i]] 0 } rfl rfl ?_ rfl (WS.all rfl ?_))))))
    · show (match (l.map fun b => [PV.bool b])[i]? with
        | some cs => if Nat.beq 1 1 then some ({ v := .rptr cs 0 } : Res) else none
        | none => none) = _
      rw [hget]; rfl
    refine WP.seq (WP.regAll rfl (WP.seq ?_))
    refine mid_ok (stAt l i).1 (stAt l i).2.1 b1 b2 l[i] _ _ _ _ _ _ _ fun ex => ?_
    have e1 : wrapF .i64 (Int.ofNat i + 1) = Int.ofNat (i + 1) := by rw [wrapF_i64] <;> simp only [Int.ofNat_eq_natCast] <;> omega
    refine WP.reg (WS.cons rfl rfl (WS.cons rfl rfl (WS.cons rfl rfl (WS.shrv rfl rfl rfl ?_))))
    have hs1 : (stAt l (i + 1)).1 = (thr (stAt l i).1 (stAt l i).2.1 l[i]).1 := by rw [stAt_succ l i hlt]; rfl
    have hs2 : (stAt l (i + 1)).2.1 = (thr (stAt l i).1 (stAt l i).2.1 l[i]).2.1 := by rw [stAt_succ l i hlt]; rfl
    match i, hi, hlt, e1, hs1, hs2 with
    | 0, hi, hlt, e1, hs1, hs2 =>
      refine Does.mono (cb_sizes0 (Int.ofNat (thr (stAt l 0).1 (stAt l 0).2.1 l[0]).1) (Int.ofNat (thr (stAt l 0).1 (stAt l 0).2.1 l[0]).2.2)) ?_
      intro v s' z ⟨h1, h2⟩
      subst h1 h2
      refine ⟨rfl, WS.nil ?_⟩
      refine WP.regAll rfl ?_
      refine ⟨0 + 1, ?_, hlt, by omega⟩
      show norm _ { env := [(1, .clo 14 [] [.ptr 0 1 0 0]), (4, I (thr (stAt l 0).1 (stAt l 0).2.1 l[0]).1), (5, I (thr (stAt l 0).1 (stAt l 0).2.1 l[0]).2.1), (9, encB l), (10, I l.length), (11, .int .i64 (wrapF .i64 (Int.ofNat 0 + 1)))], sto := [.box [.own 2 1 0 1 1 false], .arr 1 [[I (thr (stAt l 0).1 (stAt l 0).2.1 l[0]).1]], .arr 1 [[I (thr (stAt l 0).1 (stAt l 0).2.1 l[0]).1]]], fz := [], kn := 1 } = _
      rw [e1, ← hs1, ← hs2]
      rfl
    | j + 1, hi, hlt, e1, hs1, hs2 =>
      have hlen := sizesAt_len l (j + 1)
      refine Does.mono (cb_sizes1 (Int.ofNat (thr (stAt l (j + 1)).1 (stAt l (j + 1)).2.1 l[j + 1]).1) (Int.ofNat (thr (stAt l (j + 1)).1 (stAt l (j + 1)).2.1 l[j + 1]).2.2) (sizesAt l (j + 1)) (by omega)) ?_
      intro v s' z ⟨h1, h2⟩
      subst h1 h2
      refine ⟨rfl, WS.nil ?_⟩
      refine WP.regAll rfl ?_
      refine ⟨j + 1 + 1, ?_, hlt, by omega⟩
      show norm _ { env := [(1, .clo 14 [] [.ptr 0 1 0 0]), (4, I (thr (stAt l (j + 1)).1 (stAt l (j + 1)).2.1 l[j + 1]).1), (5, I (thr (stAt l (j + 1)).1 (stAt l (j + 1)).2.1 l[j + 1]).2.1), (9, encB l), (10, I l.length), (11, .int .i64 (wrapF .i64 (Int.ofNat (j + 1) + 1)))], sto := [.box [.own 3 1 0 ((sizesAt l (j + 1)).length + 1) ((sizesAt l (j + 1)).length + 1) false], .dead, .arr 1 [[I (thr (stAt l (j + 1)).1 (stAt l (j + 1)).2.1 l[j + 1]).1]], .arr 1 (sizesAt l (j + 1) ++ [[I (thr (stAt l (j + 1)).1 (stAt l (j + 1)).2.1 l[j + 1]).1]])], fz := [], kn := 1 } = _
      rw [e1, ← hs1, ← hs2]
      have hl2 : (sizesAt l (j + 1)).length + 1 = (sizesAt l (j + 1 + 1)).length := by rw [sizesAt_len, sizesAt_len]
      rw [hl2]
      rfl
  · have hlt : ¬ i < l.length := by have := of_decide_eq_false hc; simp only [Int.ofNat_eq_natCast] at this; omega
    have hi2 : i = l.length := by omega
    subst hi2
    refine WP.exit ?_
    exact ⟨[], rfl, rfl, rfl, rfl⟩

theorem sizes_pure (l : List Bool) (hl : l.length ≤ 1000) : PureF tab 7 [encB l] (.tup [.sl 1 false (sizesAt l l.length), .int .i64 0]) := by
  refine PureF.of tab_7 rfl ?_
  unfold x7
  refine WP.seq (WP.regAll rfl (WP.seq (WP.seq (WP.regAll rfl ?_))))
  refine WP.cond (decide (Int.ofNat (l.map fun b => [PV.bool b]).length > 1000)) rfl (fun hc => ?_) (fun hc => WP.skip ?_)
  · exfalso
    have := of_decide_eq_true hc
    simp only [List.length_map, Int.ofNat_eq_natCast] at this; omega
  refine WP.seq (WP.regAll rfl (WP.seq (WP.reg (WS.cons rfl rfl (WS.cons rfl rfl (WS.shr rfl (Does.mono (thr_sizes l hl) ?_)))))))
  intro v s z ⟨h1, h2, h3⟩
  generalize hj : l.length = j at h2 ⊢
  cases j with
  | zero =>
    subst h1 h2 h3
    refine ⟨rfl, WS.nil ?_⟩
    refine WP.seq (WP.regAll rfl (WP.ret ?_))
    exact ⟨_, rfl, rfl, rfl⟩
  | succ j =>
  subst h1 h2 h3
  refine ⟨rfl, WS.nil ?_⟩
  refine WP.seq (WP.regAll rfl (WP.ret ?_))
  refine ⟨_, rfl, rfl, ?_⟩
  have : imF [.box [.own 1 1 0 (sizesAt l (j + 1)).length (sizesAt l (j + 1)).length false], .arr 1 (sizesAt l (j + 1))] (.tup [.own 1 1 0 (sizesAt l (j + 1)).length (sizesAt l (j + 1)).length false, .int .i64 0]) = some (.tup [.sl 1 false (((sizesAt l (j + 1)).drop 0).take (sizesAt l (j + 1)).length), .int .i64 0]) := rfl
  rw [List.drop_zero, List.take_length] at this
  exact this
end Go.Proofs.Ytohmmcfniijjkaa
