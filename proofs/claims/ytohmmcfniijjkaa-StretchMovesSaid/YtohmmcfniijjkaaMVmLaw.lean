/- A law's row from what the logical machine answers: the result is true, nothing that was there has turned. -/
import Derived.Test.YtohmmcfniijjkaaMVmSound
import Derived.ProofKit
import Derived.Carry
import Derived.OpenShut
import Derived.Deep.Slices
import Derived.Deep.Grids
namespace Go.Vm
open Go.ChangeShapes Go.WideShapes Go.ChangeAt Go.RowKit

section
variable {H : Type} {enc : TypeId × Value → H} {P : Program}

theorem trodAll_below (hl : laidOutB P = true) {W W' : World} (hb : Below W.heap.size W W') : ∀ {ts : List TypeId} {vs : List Value} {ds : List (DataW H)} {ps : List MemPlace}, (∀ t ∈ ts, P.readableRec t = true ∧ t < P.types.size) →
    DataW.TrodAll enc P W 0 (fun _ => true) true ts vs ds ps → (∀ x ∈ ps, x.block < W.heap.size) → DataW.TrodAll enc P W' 0 (fun b => decide (b < W.heap.size)) true ts vs ds ps
  | [], vs, ds, ps, _, h, _ => by
    obtain ⟨rfl, rfl, rfl⟩ := trodAll_nil h
    exact trodAll_mk0
  | t :: ts, vs, ds, ps, ht, h, hlt => by
    obtain ⟨v, vs', d, ds', p, q, rfl, rfl, rfl, h1, h2⟩ := trodAll_cons h
    obtain ⟨h3, h4⟩ := ht t (by simp)
    exact trodAll_cons_mk (Below.trod hl h3 h4 h1 hb fun x hx => hlt x (by simp [hx])) (trodAll_below hl hb (fun t' ht' => ht t' (by simp [ht'])) h2 fun x hx => hlt x (by simp [hx]))

/-- Where a law says 'true' and leaves its arguments as they are. -/
theorem law_post (hl : laidOutB P = true) {f : Func} {s : ChangeSpec} {W W' : World} {args : Array Value} {ds : List (DataW H)} {before : List MemPlace} {bt : TypeId} (hvars : s.vars = []) (hres : f.resultTypes = #[bt]) (hbt : P.underlying bt = some .bool)
    (hp : ∀ t ∈ f.params.toList, P.readableRec t = true ∧ t < P.types.size) (hW : DataW.Whole enc P f.params.toList s.vars false W args.toList ds [] before)
    (hfn : s.fn H (ds ++ []) = { results := [.lit (.bool true)], args := ds }) (hb : Below W.heap.size W W') : s.post enc P f false true false false W args (.bool true) W' := by
  have hW' := hW
  obtain ⟨p, q, hA, hV, rfl, hfz, hnd⟩ := hW
  have hlt : ∀ x ∈ p ++ q, x.block < W.heap.size := fun x hx => by simpa using hW'.lt x hx
  refine ⟨ds, [], p ++ q, [], p, [], hW', ?_, ?_, ?_, hb.frame _, fun h => by cases h⟩
  · rw [hfn, hres]
    exact trodAll_mk1 (shut_bool hbt true)
  · rw [hfn]
    exact trodAll_below hl hb hp hA fun x hx => hlt x (by simp [hx])
  · rw [hfn, hvars]
    rfl

end

/-- All that is there. -/
def imOf (w : World) : Im := fun b => w.heap[b]?

theorem imOf_cell {w : World} {b o : Nat} {v : Value} (h : w.cell? ⟨b, o, none⟩ = some v) : imCell (imOf w) b o = some v := by
  unfold World.cell? at h
  unfold imCell imOf
  exact h

def encBools (l : List Bool) : PV := .sl 1 false (l.map fun b => [.bool b])

/-- A slice of bools that came in. -/
theorem vr_bools {H : Type} {enc : TypeId × Value → H} {P : Program} {t e : TypeId} {w : World} {base : Nat} {v : Value} {d : DataW H} {p : List MemPlace} (ht : P.underlying t = some (.slice e)) (he : P.underlying e = some .bool) (hc : P.cellsOf e = 1)
    (hv : Value.okWide P w .any base t v) (h : DataW.Trod enc P w 0 (fun _ => true) true t v d p) : ∃ l : List Bool, VR (imOf w) noLoc (encBools l) v ∧ l.length ≤ maxLen := by
  obtain ⟨a, len, cap, rfl⟩ := okWide_slice ht hv
  obtain ⟨fuel, hf⟩ := h
  rcases Go.Deep.open_bools (cs := (Value.slice a len cap).cells.toList) ht he hc hf with ⟨hcs, _⟩ | ⟨ad, len', cap', B, hcs, _, hl, hm, _, hcell⟩
  · have : a = none ∧ len = 0 ∧ cap = 0 := by simpa [Value.cells] using hcs
    obtain ⟨rfl, rfl, rfl⟩ := this
    exact ⟨[], .sl 1 false [] none 0 (Nat.le_refl _) (fun h => by cases h) (fun h => absurd rfl h), Nat.zero_le _⟩
  · have : a = some ad ∧ len = len' ∧ cap = cap' := by simpa [Value.cells] using hcs
    obtain ⟨rfl, rfl, rfl⟩ := this
    refine ⟨(List.range len).map B, ?_, by simp; omega⟩
    have hlen : ((((List.range len).map B)).map fun b => [PV.bool b]).length = len := by simp
    have := VR.sl (im := imOf w) (loc := noLoc) 1 false ((((List.range len).map B)).map fun b => [PV.bool b]) (some ad) cap (by rw [hlen]; exact hl) (fun h => by cases h) (fun hne => by
      have hpos : 0 < len := by
        rcases Nat.eq_zero_or_pos len with h | h
        · subst h; exact absurd rfl hne
        · exact h
      obtain ⟨b, off, spot⟩ := ad
      have hspot : spot = none := by simpa [Addr.add] using World.cell?_spot (hcell 0 (by omega))
      subst hspot
      refine ⟨b, off, rfl, fun i r hr => ?_⟩
      simp only [List.map_map, List.getElem?_map, Option.map_eq_some_iff] at hr
      obtain ⟨j, hj, rfl⟩ := hr
      have hjl := lt_of_get hj
      have : j = i := by
        rw [List.getElem?_range (by simpa using hjl)] at hj
        exact (Option.some.inj hj).symm
      subst this
      refine ⟨rfl, fun k c hk => ?_⟩
      match k, hk with
      | 0, hk =>
        simp at hk; subst hk
        refine ⟨_, rfl, imOf_cell ?_⟩
        have := hcell j (by simp at hjl; omega)
        rw [Go.WideShapes.add_plain] at this
        simpa using this
      | k + 1, hk => simp at hk)
    rw [hlen] at this
    exact this

/-- The contract of a law, over the logical machine. -/
theorem law_calls {P : Program} {F : Tab} {prims : FuncId → Bool} (hT : TabOK P prims F) (hprim : PrimsOK P F) (hmix : P.follows .mixedOrders = true) {f : FuncId} {args : List PV} {s : Sto} {z : List Nat} {n : Nat} {us : List Value} {w : World}
    (h : run F n (.func f args [] []) = some (.func (.bool true) s z)) (hus : VRL (imOf w) noLoc args us) : Calls P f ⟨us⟩ w fun e w' => e = .returned (.bool true) ∧ Below w.heap.size w w' := by
  refine (call_pure hT hprim hmix h (im := imOf w) (fun b o h => h) hus).mono fun e w' ⟨u, he, ⟨im', loc', hvr, _⟩, h1, h2, h3, h4, h5⟩ => ?_
  obtain rfl := hvr.bool_inv
  exact ⟨he, ⟨h1, h2, h3, h4, h5⟩⟩

end Go.Vm
