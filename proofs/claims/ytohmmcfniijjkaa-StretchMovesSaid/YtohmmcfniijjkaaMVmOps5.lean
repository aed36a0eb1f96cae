/- Operation by operation, fifth part: append. -/
import Derived.Test.YtohmmcfniijjkaaMVmOps4
namespace Go.Vm

theorem setRows_spl : ∀ (new : List Row) (i : Nat) (rows : List Row), i + new.length ≤ rows.length → setRows i new rows = spl i new rows
  | [], i, rows, h => by simp [setRows, spl]
  | r :: rs, i, rows, h => by
    simp only [List.length_cons] at h
    rw [setRows, setRows_spl rs (i + 1) (rows.set i r) (by simp; omega)]
    apply List.ext_getElem?
    intro j
    rw [spl_get _ _ _ (by simp; omega), spl_get _ _ _ (by simp; omega)]
    simp only [List.length_cons]
    by_cases h1 : i + 1 ≤ j ∧ j < i + 1 + rs.length
    · rw [if_pos h1, if_pos ⟨by omega, by omega⟩]
      obtain ⟨k, hk⟩ : ∃ k, j - i = k + 1 := ⟨j - i - 1, by omega⟩
      rw [hk, show j - (i + 1) = k by omega]; simp
    · rw [if_neg h1]
      by_cases h2 : j = i
      · subst h2
        rw [if_pos ⟨Nat.le_refl _, by omega⟩, List.getElem?_set_self (by omega)]
        simp
      · rw [if_neg (by omega), List.getElem?_set_ne (by omega)]

theorem RowsAt.spl {get get' : Nat → Option Value} {sh esz i : Nat} {new rows : List Row} (h : RowsAt get sh esz rows) (hle : i + new.length ≤ rows.length)
    (hl : ∀ r ∈ new, r.length = esz) (hp : ∀ r ∈ new, ∀ c ∈ r, c.plain = true)
    (hg : ∀ k, get' k = if sh + i * esz ≤ k ∧ k < sh + i * esz + new.length * esz then (new.flatMap rowVals)[k - (sh + i * esz)]? else get k) :
    RowsAt get' sh esz (spl i new rows) := by
  have hfl := flat_length hl
  have old : ∀ k r, rows[k]? = some r → (k < i ∨ i + new.length ≤ k) → r.length = esz ∧ ∀ (j : Nat) (c : PV), r[j]? = some c → ∃ v, plainVal c = some v ∧ get' (sh + k * esz + j) = some v := by
    intro k r hk hor
    obtain ⟨h1, h2⟩ := h k r hk
    refine ⟨h1, fun j c hc => ?_⟩
    obtain ⟨v, hv, hvv⟩ := h2 j c hc
    refine ⟨v, hv, ?_⟩
    have hj : j < esz := by
      rcases Nat.lt_or_ge j r.length with h | h
      · omega
      · rw [List.getElem?_eq_none h] at hc; cases hc
    rw [hg, if_neg]
    · exact hvv
    · rcases hor with hor | hor
      · have := Nat.mul_le_mul_right esz (show k + 1 ≤ i from hor)
        rw [Nat.add_mul] at this
        omega
      · have := Nat.mul_le_mul_right esz hor
        rw [Nat.add_mul] at this
        omega
  have hnew : RowsAt get' (sh + i * esz) esz new := RowsAt.ofFlat hl hp fun j v hj => by
    have hjl : j < new.length * esz := by
      rcases Nat.lt_or_ge j (new.length * esz) with h | h
      · exact h
      · rw [List.getElem?_eq_none (by omega)] at hj; cases hj
    rw [hg, if_pos ⟨by omega, by omega⟩, ← hj]; congr 1; omega
  intro k r hk
  rw [spl_get _ _ _ hle] at hk
  split at hk
  · rename_i hc
    obtain ⟨h1, h2⟩ := hnew _ r hk
    refine ⟨h1, fun j c hc' => ?_⟩
    obtain ⟨v, hv, hvv⟩ := h2 j c hc'
    refine ⟨v, hv, ?_⟩
    rw [← hvv]; congr 1
    have : k * esz = i * esz + (k - i) * esz := by rw [← Nat.add_mul]; congr 1; omega
    omega
  · rename_i hc
    exact old k r hk (by omega)

theorem grownCap_ge (w : World) (need old : Nat) (e : TypeId) : need ≤ grownCap w need old e := by
  unfold grownCap; simp [Question.cut]

theorem cap_fits {need old bytes : Nat} (h : old < need) (hn : need ≤ 1048576) (hb : bytes ≤ 1048576) : Builtin.nextslicecap need old * bytes ≤ 281474976710656 := by
  have h1 := nextslicecap_le h
  have h2 : Builtin.nextslicecap need old ≤ 2097152 := by omega
  have := Nat.mul_le_mul h2 hb
  omega

theorem zeroCells_size (z : Array Value) (n : Nat) : (Builtin.zeroCells z n).size = n * z.size := by simp [Builtin.zeroCells]

section
variable {P : Program} {im : Im} {loc : Loc} {sto : Sto} {fz : List Nat} {w : World}

theorem run_append_room_row (t tx ty e : TypeId) (i : TypeInfo) (ht : P.underlying t = some (.slice e)) (hi : P.info? e = some i) (b off sLen sCap : Nat) (x : Value) (n : Nat) (news : List Value) (hs : Src P i.size tx x n news w)
    (hroom : sLen + n ≤ sCap) {cur : Array Value} {el : TypeId} (hb : w.heap[b]? = some (.cells cur el (0, 0))) (hle : off + sLen * i.size + news.length ≤ cur.size) :
    (Builtin.append_ #[t, tx] ty #[.slice (some ⟨b, off, none⟩) sLen sCap, x]).run P w =
      .ok (.slice (some ⟨b, off, none⟩) (sLen + n) sCap) (w.setRow b (spl (off + sLen * i.size) news cur.toList).toArray) := by
  have hst := run_storeCells_at P b (off + sLen * i.size) el news 0 cur w hb (by simpa using hle) hs.one
  simp only [Nat.add_zero] at hst
  rcases hs.kind with ⟨e', hk⟩ | hk <;> simp [Builtin.append_, run_underlying ht, run_underlying hk, sizeOf, typeInfo, hi, hs.len, hroom, hs.cells, Addr.add_lit, hst, spl]

/-- The new row that an append makes: 'olds' and 'new', and what lies behind. -/
theorem sim_grown {esz : Nat} {olds new : List Row} {rest : Array Value} {el : TypeId} {r : Res} {w' : World} {nc : Nat} (hr : r.v = .own sto.length esz 0 (olds.length + new.length) (olds.length + new.length) false)
    (hn : r.news = [.arr esz (olds ++ new)]) (hk : Known im loc sto w r) (hne : new ≠ [])
    (hh : w'.heap = w.heap.push (.cells (((olds.flatMap rowVals) ++ (new.flatMap rowVals)).toArray ++ rest) el))
    (hl1 : ∀ r ∈ olds, r.length = esz) (hp1 : ∀ r ∈ olds, ∀ c ∈ r, c.plain = true) (hl2 : ∀ r ∈ new, r.length = esz) (hp2 : ∀ r ∈ new, ∀ c ∈ r, c.plain = true)
    (hnc : olds.length + new.length ≤ nc) (hrs : rest.size = (nc - (olds.length + new.length)) * esz) :
    ∃ li : LI, li.blk = w.heap.size ∧ VR im (loc.set sto.length li) r.v (.slice (some ⟨w.heap.size, 0, none⟩) (olds.length + new.length) nc) ∧
      BR im (loc.set sto.length li) w' li (.arr esz (olds ++ new)) ∧ LocLe loc (loc.set sto.length li) := by
  have hfl1 := flat_length hl1
  have hfl2 := flat_length hl2
  have hsz : (((olds.flatMap rowVals) ++ (new.flatMap rowVals)).toArray ++ rest).size = nc * esz := by
    simp only [Array.size_append, List.size_toArray, List.length_append, hfl1, hfl2, hrs]
    rw [← Nat.add_mul, ← Nat.add_mul]; congr 1; omega
  let li : LI := ⟨w.heap.size, 0, esz, (olds ++ new).length, nc * esz⟩
  refine ⟨li, rfl, ?_, ⟨rfl, rfl, fun _ => ⟨_, el, by rw [hh]; simp [li], hsz, ?_, ?_⟩⟩, Loc.le_set li (by have := hk.fresh 0 (by simp [hn]); simpa using this)⟩
  · rw [hr]
    have := VR.own (im := im) (loc := loc.set sto.length li) sto.length esz 0 (olds.length + new.length) (olds.length + new.length) false li (some ⟨w.heap.size, 0, none⟩) nc
      (Loc.set_same _ _ _) rfl (by simp [li]) (Nat.le_refl _) hnc (by simp)
      (.inr ⟨by simp [li]; intro _; exact hne, by simp [li], by simp [li]⟩)
    exact this
  · simp only [li]
    have := Nat.mul_le_mul_right esz hnc
    simp only [List.length_append]
    omega
  · refine RowsAt.ofFlat (fun r hr => ?_) (fun r hr => ?_) (fun j v hj => ?_)
    · rcases List.mem_append.1 hr with h | h
      · exact hl1 r h
      · exact hl2 r h
    · rcases List.mem_append.1 hr with h | h
      · exact hp1 r h
      · exact hp2 r h
    · rw [List.flatMap_append] at hj
      simp only [li, Nat.zero_add]
      rw [Array.getElem?_append_left (by
        have := (List.getElem?_eq_some_iff.1 hj).1
        simpa using this)]
      simpa using hj

end
end Go.Vm
