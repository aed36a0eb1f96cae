/- Operation by operation, sixth part: append, whole. -/
import Derived.Test.YtohmmcfniijjkaaMVmOps5
namespace Go.Vm
section
variable {P : Program} {im : Im} {loc : Loc} {sto : Sto} {fz : List Nat} {w : World}

theorem grow_run {t tx ty e : TypeId} {i : TypeInfo} {z : Value} {esz : Nat} (ht : P.underlying t = some (.slice e)) (hi : P.info? e = some i) (hz : i.zero = some z) (hzs : z.cells.size = esz)
    (hby : i.bytes ≤ 1048576) {base : Option Addr} {sLen sCap : Nat} {olds : List Row} {new : List Row} {x : Value}
    (hold : (Builtin.firstCells i.size sLen (.slice base sLen sCap)).run P w.drew = .ok (olds.flatMap rowVals).toArray w.drew)
    (hs : Src P i.size tx x new.length (new.flatMap rowVals) w) (hg : sCap < sLen + new.length) (hm : sLen + new.length ≤ 1048576) :
    ∃ (nc : Nat) (rest : Array Value), sLen + new.length ≤ nc ∧ rest.size = (nc - (sLen + new.length)) * esz ∧
      (Builtin.append_ #[t, tx] ty #[.slice base sLen sCap, x]).run P w = .ok (.slice (some ⟨w.heap.size, 0, none⟩) (sLen + new.length) nc)
        (w.drew.alloc (.cells (((olds.flatMap rowVals) ++ (new.flatMap rowVals)).toArray ++ rest) e)) := by
  refine ⟨_, _, grownCap_ge w (sLen + new.length) sCap e, by rw [zeroCells_size, hzs],
    run_append_grow_src w t tx ty e i z ht hi hz base sLen sCap _ hold x _ _ hs hg (by omega) (cap_fits hg hm hby)⟩

theorem sim_append {t tx ty e e' : TypeId} {i : TypeInfo} {z : Value} {esz : Nat} (ht : P.underlying t = some (.slice e)) (htx : P.underlying tx = some (.slice e')) (hi : P.info? e = some i) (hsz : i.size = esz)
    (hz : i.zero = some z) (hzs : z.cells.size = esz) (hby : i.bytes ≤ 1048576)
    {x y : PV} {u v : Value} {r : Res} (hx : VR im loc x u) (hy : VR im loc y v) (h : appendE sto fz esz x y = some r) (hk : Known im loc sto w r) :
    ∃ v' w' loc', (Builtin.append_ #[t, tx] ty #[u, v]).run P w = .ok v' w' ∧ VR im loc' r.v v' ∧ Eff im loc sto w r im loc' w' := by
  unfold appendE at h
  cases hro : rowsOf sto esz y with
  | none => rw [hro] at h; cases h
  | some new =>
    rw [hro] at h
    dsimp only at h
    cases new with
    | nil =>
      dsimp only at h
      have key : ∀ (a : Option Addr) (n cap : Nat), u = .slice a n cap → n ≤ cap → some ({ v := x, rd := tokOf y } : Res) = some r →
          ∃ v' w' loc', (Builtin.append_ #[t, tx] ty #[u, v]).run P w = .ok v' w' ∧ VR im loc' r.v v' ∧ Eff im loc sto w r im loc' w' := by
        intro a n cap hu hle hr
        injection hr with hr; subst hr
        obtain ⟨hs, _, _⟩ := src_of (P := P) (w := w) hy hro htx hk.im_ok (fun t ht => hk.tok t (.inl ht))
        simp only [List.flatMap_nil, List.length_nil] at hs
        subst hu
        rw [← hsz] at hs
        exact ⟨_, _, loc, run_append_nothing w t tx ty e i ht hi a n cap hle _ hs, hx, Eff.none hk rfl rfl⟩
      cases x with
      | sl e clip rows => obtain ⟨a, cap, hu, hle, _⟩ := hx.sl_inv; exact key a _ cap hu hle h
      | own tk e off len cap ex => obtain ⟨li, a, cap', hu, h1, h2, h3, h4, h5, _⟩ := hx.own_inv; exact key a _ cap' hu (by omega) h
      | _ => cases h
    | cons n0 ns =>
      dsimp only at h
      generalize hnew : n0 :: ns = new at h hro
      have hne : new ≠ [] := by rw [← hnew]; simp
      have hpos : 0 < new.length := by rw [← hnew]; simp
      cases x with
      | sl e1 clip rows =>
        dsimp only at h
        split at h
        · rename_i hc
          simp only [Bool.and_eq_true, Bool.or_eq_true, Nat.beq_eq, Nat.ble_eq] at hc
          obtain ⟨⟨hclip, hesz⟩, hmost⟩ := hc
          injection h with h
          obtain ⟨a, cap, rfl, hcap, hck, hrows⟩ := hx.sl_inv
          have hcapeq := hck hclip
          have hkk : Known im loc sto w { v := .own sto.length esz 0 (rows.length + new.length) (rows.length + new.length) false, news := [.arr esz (rows ++ new)], rd := tokOf y } := by rw [h]; exact hk
          obtain ⟨hs, hnl, hnp⟩ := src_of (P := P) (w := w) hy hro htx hkk.im_ok (fun t ht => hkk.tok t (.inl ht))
          rw [← hsz] at hs
          have hold : (Builtin.firstCells i.size rows.length (.slice a rows.length cap)).run P w.drew = .ok (rows.flatMap rowVals).toArray w.drew ∧ (∀ r ∈ rows, r.length = esz) ∧ (∀ r ∈ rows, ∀ c ∈ r, c.plain = true) := by
            cases hrw : rows with
            | nil =>
              refine ⟨?_, by simp, by simp⟩
              cases a with
              | none => simpa using run_firstCells_none w.drew i.size 0 0 cap
              | some a => exact run_firstCells_some w.drew i.size 0 a 0 cap [] (by simp) (by simp)
            | cons r0 rs =>
              rw [← hrw]
              have hne' : rows ≠ [] := by rw [hrw]; simp
              obtain ⟨b, o, rfl, hat⟩ := hrows hne'
              have he1 : e1 = esz := by
                rcases hesz with h | h
                · exact h
                · rw [hrw] at h; simp at h
              subst he1
              refine ⟨run_firstCells_some w.drew i.size rows.length ⟨b, o, none⟩ rows.length cap _ (by rw [hsz]; exact flat_length hat.rowLen) (fun j v hj => ?_), hat.rowLen, hat.plain⟩
              rw [add_at]
              exact imCell_cell hkk.im_ok (hat.flat j v hj)
          obtain ⟨hold, hol, hop⟩ := hold
          obtain ⟨nc, rest, hnc, hrs, hrun⟩ := grow_run (P := P) (w := w) (tx := tx) (ty := ty) ht hi hz hzs hby (sCap := cap) hold hs (by omega) (by simpa [most] using hmost)
          obtain ⟨li, hlb, hvr, hbr, hle⟩ := sim_grown (im := im) (loc := loc) (r := { v := .own sto.length esz 0 (rows.length + new.length) (rows.length + new.length) false, news := [.arr esz (rows ++ new)], rd := tokOf y })
            (w' := w.drew.alloc (.cells (((rows.flatMap rowVals) ++ (new.flatMap rowVals)).toArray ++ rest) e)) rfl rfl hkk hne rfl hol hop hnl hnp hnc hrs
          subst h
          exact ⟨_, _, _, hrun, hvr, Eff.new hkk li rfl rfl rfl rfl rfl rfl hlb hbr⟩
        · cases h
      | own tk e1 off len cap ex =>
        dsimp only at h
        obtain ⟨li, a, cap', rfl, hl, he, hoff, hlen, hcap, hex, hadr⟩ := hx.own_inv
        cases hst : sto[tk]? with
        | none => rw [hst] at h; cases h
        | some blk =>
          rw [hst] at h
          cases blk with
          | arr e2 rows =>
            dsimp only at h
            split at h
            · cases h
            · rename_i hee
              have hee : e1 = esz := by simpa using hee
              subst hee
              split at h
              · -- room
                rename_i hroom
                have hroom : len + new.length ≤ cap := by simpa using hroom
                split at h
                · cases h
                · rename_i hfz
                  injection h with h
                  subst h
                  obtain ⟨hs, hnl, hnp⟩ := src_of (P := P) (w := w) hy hro htx hk.im_ok (fun t ht => hk.tok t (.inl ht))
                  rw [← hsz] at hs
                  obtain ⟨k, hk1, hb⟩ := hk.tok tk (.inr ⟨_, List.mem_singleton.2 rfl⟩) li hl
                  rw [hst] at hk1; injection hk1 with hk1; subst hk1
                  obtain ⟨b1, b2, b3⟩ := hb
                  have hrne : rows ≠ [] := by intro e; subst e; simp at b2; omega
                  have he2 : e2 = e1 := by rw [← b1, he]
                  subst he2
                  obtain ⟨arr, el, ha1, ha2, ha3, hat⟩ := b3 hrne
                  rcases hadr with h0 | ⟨_, rfl, hfit⟩
                  · omega
                  · have hnfl := flat_length hnl
                    have hmul := Nat.mul_le_mul_right e2 (show off + (len + new.length) ≤ rows.length by omega)
                    have hexp : (off + (len + new.length)) * e2 = off * e2 + len * e2 + new.length * e2 := by rw [Nat.add_mul, Nat.add_mul]; omega
                    have hle1 : li.sh + off * e2 + len * i.size + (new.flatMap rowVals).length ≤ arr.size := by rw [hsz, hnfl]; omega
                    have hrun := run_append_room_row (P := P) (w := w) t tx ty e i ht hi li.blk (li.sh + off * e2) len cap' v new.length (new.flatMap rowVals) hs (by omega) ha1 hle1
                    refine ⟨_, _, loc, hrun, ?_, ?_⟩
                    · exact .own tk e2 off (len + new.length) cap ex li _ cap' hl he hoff hroom hcap hex (.inr ⟨by omega, rfl, hfit⟩)
                    · refine Eff.write hk (t := tk) (k0 := .arr e2 rows) (li := li) rfl rfl hl hst (by cases rows with | nil => exact absurd rfl hrne | cons _ _ => rfl) (setRow_heap_eq ha1) rfl rfl rfl ?_
                      rw [setRows_spl _ _ _ (by omega)]
                      refine ⟨b1, by rw [spl_length _ _ _ (by omega)]; exact b2, fun _ => ⟨(spl (li.sh + off * e2 + len * i.size) (new.flatMap rowVals) arr.toList).toArray, el, ?_, ?_, ?_, ?_⟩⟩
                      · rw [setRow_heap_eq ha1]
                        have hlt := (Array.getElem?_eq_some_iff.1 ha1).1
                        simp [hlt]
                      · rw [← ha2]
                        simp only [List.size_toArray]
                        rw [spl_length _ _ _ (by simpa using hle1)]; simp
                      · rw [spl_length _ _ _ (by omega)]; exact ha3
                      · refine hat.spl (by omega) hnl hnp (fun k => ?_)
                        simp only [List.getElem?_toArray]
                        rw [spl_get _ _ _ (by simpa using hle1), hnfl]
                        have : li.sh + off * e2 + len * i.size = li.sh + (off + len) * e2 := by rw [hsz, Nat.add_mul]; omega
                        rw [this]
                        simp
              · rename_i hroom
                have hroom : ¬ (len + new.length ≤ cap) := by simpa using hroom
                split at h
                · cases h
                · rename_i hmost
                  have hmost : len + new.length ≤ 1048576 := by simpa [most] using hmost
                  -- the old rows
                  have old : ∀ (rd : List Nat) (wr : List (Nat × Blk)), (tk ∈ rd ∨ ∃ k, (tk, k) ∈ wr) →
                      Known im loc sto w { v := .own sto.length e1 0 (len + new.length) (len + new.length) false, news := [.arr e1 ((rows.drop off).take len ++ new)], wr := wr, rd := rd } →
                      (Builtin.firstCells i.size len (.slice a len cap')).run P w.drew = .ok (((rows.drop off).take len).flatMap rowVals).toArray w.drew ∧ ((rows.drop off).take len).length = len ∧
                        (∀ r ∈ (rows.drop off).take len, r.length = e1) ∧ (∀ r ∈ (rows.drop off).take len, ∀ c ∈ r, c.plain = true) := by
                    intro rd wr hmem hkk
                    obtain ⟨k, hk1, hb⟩ := hkk.tok tk hmem li hl
                    rw [hst] at hk1; injection hk1 with hk1; subst hk1
                    obtain ⟨b1, b2, b3⟩ := hb
                    have he2 : e2 = e1 := by rw [← b1, he]
                    subst he2
                    have hll : ((rows.drop off).take len).length = len := by simp; omega
                    by_cases hl0 : len = 0
                    · subst hl0
                      refine ⟨?_, hll, by simp, by simp⟩
                      simp only [List.take_zero, List.flatMap_nil]
                      cases a with
                      | none => exact run_firstCells_none w.drew i.size 0 0 cap'
                      | some a => exact run_firstCells_some w.drew i.size 0 a 0 cap' [] (by simp) (by simp)
                    · have hrne : rows ≠ [] := by intro e; subst e; simp at hll; omega
                      obtain ⟨arr, el, ha1, ha2, ha3, hat⟩ := b3 hrne
                      have hsub := (hat.drop off).take len
                      rcases hadr with h0 | ⟨_, rfl, _⟩
                      · omega
                      · refine ⟨run_firstCells_some w.drew i.size len _ len cap' _ (by rw [hsz, flat_length hsub.rowLen, hll]) (fun j v hj => ?_), hll, hsub.rowLen, hsub.plain⟩
                        rw [add_at]
                        exact cell_of_block (w := w) ha1 (hsub.flat j v hj)
                  split at h
                  · -- its capacity is known: it grows
                    rename_i hexx
                    injection h with h
                    have hkk : Known im loc sto w { v := .own sto.length e1 0 (len + new.length) (len + new.length) false, news := [.arr e1 ((rows.drop off).take len ++ new)], wr := [], rd := tk :: tokOf y } := by rw [h]; exact hk
                    obtain ⟨hold, hll, hol, hop⟩ := old (tk :: tokOf y) [] (.inl (by simp)) hkk
                    obtain ⟨hs, hnl, hnp⟩ := src_of (P := P) (w := w) hy hro htx hkk.im_ok (fun t ht => hkk.tok t (.inl (List.mem_cons_of_mem _ ht)))
                    rw [← hsz] at hs
                    have hce := hex hexx
                    obtain ⟨nc, rest, hnc, hrs, hrun⟩ := grow_run (P := P) (w := w) (tx := tx) (ty := ty) ht hi hz hzs hby (sCap := cap') hold hs (by omega) hmost
                    obtain ⟨lj, hlb, hvr, hbr, hle⟩ := sim_grown (im := im) (loc := loc) (olds := (rows.drop off).take len) (new := new) (r := { v := .own sto.length e1 0 (len + new.length) (len + new.length) false, news := [.arr e1 ((rows.drop off).take len ++ new)], wr := [], rd := tk :: tokOf y })
                      (w' := w.drew.alloc (.cells (((((rows.drop off).take len).flatMap rowVals) ++ (new.flatMap rowVals)).toArray ++ rest) e)) (by rw [hll]) rfl hkk hne rfl hol hop hnl hnp (by rw [hll]; exact hnc) (by rw [hll]; exact hrs)
                    subst h
                    rw [hll] at hvr
                    exact ⟨_, _, _, hrun, hvr, Eff.new hkk lj rfl rfl rfl rfl rfl rfl hlb hbr⟩
                  · rename_i hexx
                    split at h
                    · cases h
                    · rename_i hfz
                      injection h with h
                      have hkk : Known im loc sto w { v := .own sto.length e1 0 (len + new.length) (len + new.length) false, news := [.arr e1 ((rows.drop off).take len ++ new)], wr := [(tk, .dead)], rd := tokOf y } := by rw [h]; exact hk
                      obtain ⟨hold, hll, hol, hop⟩ := old (tokOf y) [(tk, .dead)] (.inr ⟨_, List.mem_singleton.2 rfl⟩) hkk
                      obtain ⟨hs, hnl, hnp⟩ := src_of (P := P) (w := w) hy hro htx hkk.im_ok (fun t ht => hkk.tok t (.inl ht))
                      have hs' := hs
                      rw [← hsz] at hs
                      subst h
                      rcases Nat.lt_or_ge cap' (len + new.length) with hg | hg
                      · -- it grows
                        obtain ⟨nc, rest, hnc, hrs, hrun⟩ := grow_run (P := P) (w := w) (tx := tx) (ty := ty) ht hi hz hzs hby (sCap := cap') hold hs hg hmost
                        obtain ⟨lj, hlb, hvr, hbr, hle⟩ := sim_grown (im := im) (loc := loc) (olds := (rows.drop off).take len) (new := new) (r := { v := .own sto.length e1 0 (len + new.length) (len + new.length) false, news := [.arr e1 ((rows.drop off).take len ++ new)], wr := [(tk, .dead)], rd := tokOf y })
                          (w' := w.drew.alloc (.cells (((((rows.drop off).take len).flatMap rowVals) ++ (new.flatMap rowVals)).toArray ++ rest) e)) (by rw [hll]) rfl hkk hne rfl hol hop hnl hnp (by rw [hll]; exact hnc) (by rw [hll]; exact hrs)
                        rw [hll] at hvr
                        refine ⟨_, _, _, hrun, hvr, ?_⟩
                        have base := Eff.new (r := { v := .own sto.length e1 0 (len + new.length) (len + new.length) false, news := [.arr e1 ((rows.drop off).take len ++ new)], wr := [], rd := tokOf y })
                          (w' := w.drew.alloc (.cells (((((rows.drop off).take len).flatMap rowVals) ++ (new.flatMap rowVals)).toArray ++ rest) e))
                          ⟨hkk.im_ok, fun t ht => hkk.tok t (by rcases ht with ht | ⟨k, ht⟩; exact .inl ht; cases ht), fun t k h => absurd h (by simp), hkk.fresh⟩ lj rfl rfl rfl rfl rfl rfl hlb hbr
                        exact { imle := base.imle, locle := base.locle, im_ok := base.im_ok, imnew := base.imnew, os := base.os, tape := base.tape, output := base.output, size := base.size,
                                frame := fun b hb _ => base.frame b hb (fun t k li k0 h => absurd h (by simp)),
                                wrs := (fun t k hm hs => by
                                  obtain ⟨rfl, rfl⟩ : t = tk ∧ k = .dead := by simpa using hm
                                  cases hs),
                                wr := fun t k li hm hl' => by
                                  obtain ⟨rfl, rfl⟩ : t = tk ∧ k = .dead := by simpa using hm
                                  trivial,
                                locnew := base.locnew,
                                news := fun j k hj => by
                                  obtain ⟨l2, h1, h2, h3⟩ := base.news j k hj
                                  refine ⟨l2, h1, h2, fun hs => ⟨(h3 hs).1, ?_⟩⟩
                                  rcases (h3 hs).2 with h | ⟨t, lt, k0, hm, _⟩
                                  · exact .inl h
                                  · exact absurd hm (by simp),
                                distinct := base.distinct }
                      · -- it stays where it is
                        obtain ⟨k, hk1, hb⟩ := hkk.tok tk (.inr ⟨_, List.mem_singleton.2 rfl⟩) li hl
                        rw [hst] at hk1; injection hk1 with hk1; subst hk1
                        obtain ⟨b1, b2, b3⟩ := hb
                        have he2 : e2 = e1 := by rw [← b1, he]
                        subst he2
                        rcases hadr with h0 | ⟨hn0, rfl, hfit⟩
                        · omega
                        · have hrne : rows ≠ [] := by intro e; subst e; simp at b2; omega
                          obtain ⟨arr, el, ha1, ha2, ha3, hat⟩ := b3 hrne
                          have hsub := (hat.drop off).take len
                          have hnfl := flat_length hnl
                          have hofl := flat_length hol
                          rw [hll] at hofl
                          have hmul := Nat.mul_le_mul_right e2 (show off + (len + new.length) ≤ off + cap' by omega)
                          have hexp : (off + (len + new.length)) * e2 = off * e2 + len * e2 + new.length * e2 := by rw [Nat.add_mul, Nat.add_mul]; omega
                          have hle1 : li.sh + off * e2 + len * i.size + (new.flatMap rowVals).length ≤ arr.size := by rw [hsz, hnfl]; omega
                          have hrun := run_append_room_row (P := P) (w := w) t tx ty e i ht hi li.blk (li.sh + off * e2) len cap' v new.length (new.flatMap rowVals) hs hg ha1 hle1
                          have hheap := setRow_heap_eq (cs := (spl (li.sh + off * e2 + len * i.size) (new.flatMap rowVals) arr.toList).toArray) ha1
                          have hlt := (Array.getElem?_eq_some_iff.1 ha1).1
                          have hsolid : (Blk.arr e2 rows).solid = true := by cases rows with | nil => exact absurd rfl hrne | cons _ _ => rfl
                          have hfree := hkk.free tk .dead (List.mem_singleton.2 rfl) li (.arr e2 rows) hl hst hsolid
                          let lj : LI := ⟨li.blk, li.sh + off * e2, e2, ((rows.drop off).take len ++ new).length, li.sz⟩
                          have hfr0 : loc sto.length = none := by have := hkk.fresh 0 (by simp); simpa using this
                          have hlj : lj.n = len + new.length := by simp only [lj, List.length_append, hll]
                          refine ⟨_, _, loc.set sto.length lj, hrun, ?_, ?_⟩
                          · exact .own sto.length e2 0 (len + new.length) (len + new.length) false lj _ cap' (Loc.set_same _ _ _) rfl (by omega) (Nat.le_refl _) hg (by simp)
                              (.inr ⟨by omega, by simp [lj], by simp only [lj, Nat.zero_add]; rw [Nat.add_mul] at hfit; omega⟩)
                          · have hbr : BR im (loc.set sto.length lj) (w.setRow li.blk (spl (li.sh + off * e2 + len * i.size) (new.flatMap rowVals) arr.toList).toArray) lj (.arr e2 ((rows.drop off).take len ++ new)) := by
                              refine ⟨rfl, rfl, fun _ => ⟨(spl (li.sh + off * e2 + len * i.size) (new.flatMap rowVals) arr.toList).toArray, el, by rw [hheap]; simp [lj, hlt], ?_, ?_, ?_⟩⟩
                              · simp only [lj, List.size_toArray]
                                rw [spl_length _ _ _ (by simpa using hle1)]; simpa using ha2
                              · simp only [lj, List.length_append, hll]
                                rw [Nat.add_mul]; rw [hexp] at hmul; omega
                              · refine RowsAt.ofFlat (fun r hr => ?_) (fun r hr => ?_) (fun j u hj => ?_)
                                · rcases List.mem_append.1 hr with h | h
                                  · exact hol r h
                                  · exact hnl r h
                                · rcases List.mem_append.1 hr with h | h
                                  · exact hop r h
                                  · exact hnp r h
                                · rw [List.flatMap_append] at hj
                                  simp only [lj, List.getElem?_toArray]
                                  rw [spl_get _ _ _ (by simpa using hle1), hnfl, hsz]
                                  rcases Nat.lt_or_ge j (len * e2) with hjl | hjl
                                  · rw [List.getElem?_append_left (by omega)] at hj
                                    rw [if_neg (by omega)]
                                    have := hsub.flat j u hj
                                    simpa using this
                                  · rw [List.getElem?_append_right (by omega), hofl] at hj
                                    have hjb := (List.getElem?_eq_some_iff.1 hj).1
                                    rw [if_pos ⟨by omega, by omega⟩, ← hj]
                                    congr 1
                                    omega
                            exact { imle := .refl _, locle := Loc.le_set lj hfr0,
                                    im_ok := fun b o hb => by
                                      have h1 := hkk.im_ok b o hb
                                      have hne2 : li.blk ≠ b := fun e => by rw [e, hb] at hfree; cases hfree
                                      rw [hheap, Array.getElem?_setIfInBounds, if_neg hne2]; exact h1,
                                    imnew := fun _ _ h => .inl h, os := rfl, tape := rfl, output := rfl,
                                    size := by rw [hheap]; simp,
                                    wrs := (fun t k hm hs => by
                                      obtain ⟨rfl, rfl⟩ : t = tk ∧ k = .dead := by simpa using hm
                                      cases hs),
                                    frame := fun b _ hb => by
                                      have hne2 := hb tk .dead li _ (List.mem_singleton.2 rfl) hl hst hsolid
                                      rw [hheap, Array.getElem?_setIfInBounds, if_neg hne2],
                                    wr := fun t k li hm hl' => by
                                      obtain ⟨rfl, rfl⟩ : t = tk ∧ k = .dead := by simpa using hm
                                      trivial,
                                    locnew := fun t l h => by
                                      unfold Loc.set at h
                                      split at h
                                      · rename_i e; subst e; exact .inr ⟨Nat.le_refl _, by simp⟩
                                      · exact .inl h,
                                    news := (fun j k hj => by
                                      cases j with
                                      | zero =>
                                        simp at hj; subst hj
                                        exact ⟨lj, Loc.set_same _ _ _, hbr, fun _ => ⟨hfree, .inr ⟨tk, li, _, List.mem_singleton.2 rfl, hl, hst, hsolid, rfl⟩⟩⟩
                                      | succ j => simp at hj),
                                    distinct := fun i j ki kj li lj h1 h2 _ _ _ _ _ => by
                                      cases i <;> cases j <;> simp at h1 h2 <;> rfl }
          | _ => cases h
      | _ => cases h

end
end Go.Vm
