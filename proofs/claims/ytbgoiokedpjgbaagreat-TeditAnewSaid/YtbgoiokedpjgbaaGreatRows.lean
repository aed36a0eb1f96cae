/-
  No cell of these rows narrows 'for every input' (looked for: loops, veiled, ifaces, maps, wideKeys, modest, calm, conditions, laid).
  DERIVED. THE GIVEN ROWS OF THIS SEAT. 5 by the template 'for every input the law returns true; each argument reads behind the call as it read before'; 0 by the template 'total and deterministic' (their statements: YtbgoiokedpjgbaaGreatTotals.lean).
  GIVEN WITH THE SEED: the statements are not yours to turn. If you find one false, say at which input.
  Laid BY PROGRAM, IN A SANDBOX (cutbox-rows.mjs): the forced cells as the released guide's own fill.sh prints them over the translation 22984f2bf58a7935… (all of the seat's roots in one cut). By AI agents, Wed Nov 11 2026. No macro, syntax, notation, axiom, sorry.
-/
import Derived.Test.YtbgoiokedpjgbaaGreatChecked
import GoSem.Claim
import GoSem.ClaimJoined
import GoSem.ClaimMapViews
import Derived.JoinedTies
import Derived.KernelRfl
namespace Go.Proofs.YtbgoiokedpjgbaaGreat
/- THE CELL 'sum', in the pinned program and in every row, IS THE sha256 OF THE DUMP (.gsa) THAT YtbgoiokedpjgbaaGreatProg.lean LOADS. Nothing in Lean hashes anything: it is a label: what it is worth is what the hold of that sum in a sandbox is worth. -/
noncomputable def Tryz.pinned : Pinned := { name := "ytbgoiokedpjgbaagreat", sum := "22984f2bf58a7935117eb5c71d2453fb8aae85a889bdca62392e5bc547000524", checked := Tryz.checked }
namespace Rows
def none {H : Type} : Left H := { results := [], args := [] }

/-- 'pelotonlaw16.TeditTakes': WHATEVER THE INPUT: true; the input reads as it did. -/
def teditTakesSpec : ChangeSpec := { name := "teditTakes", fn := fun _ => fun
  | [d1, d2] => { results := [.lit (.bool true)], args := [d1, d2] }
  | _ => none }
def teditTakesRow : OpenClaim := { program := "ytbgoiokedpjgbaagreat", sum := "22984f2bf58a7935117eb5c71d2453fb8aae85a889bdca62392e5bc547000524", func := "peloton/pelotonlaw16.TeditTakes", spec := "teditTakes", inPlace := ["math/bits.Add64"], unfollowed := true, recurses := true, plainKeys := false, apart := false }
def TeditTakesSaid : Prop := teditTakesRow.holds Tryz.pinned (OpenSpec.ofChange teditTakesSpec)

/-- ITS FALSE NEIGHBOUR: 'it returns false'. Refute it at one input. -/
def teditTakesWrong : ChangeSpec := { name := "teditTakes", fn := fun _ => fun
  | [d1, d2] => { results := [.lit (.bool false)], args := [d1, d2] }
  | _ => none }
def TeditTakesWrongFalsely : Prop := teditTakesRow.holds Tryz.pinned (OpenSpec.ofChange teditTakesWrong)

/-- 'pelotonlaw16.TeditPlaces': WHATEVER THE INPUT: true; the input reads as it did. -/
def teditPlacesSpec : ChangeSpec := { name := "teditPlaces", fn := fun _ => fun
  | [d1, d2, d3] => { results := [.lit (.bool true)], args := [d1, d2, d3] }
  | _ => none }
def teditPlacesRow : OpenClaim := { program := "ytbgoiokedpjgbaagreat", sum := "22984f2bf58a7935117eb5c71d2453fb8aae85a889bdca62392e5bc547000524", func := "peloton/pelotonlaw16.TeditPlaces", spec := "teditPlaces", inPlace := ["math/bits.Add64", "slices.overlaps[peloton/api.Point]"], unfollowed := true, recurses := true, plainKeys := false, apart := false }
def TeditPlacesSaid : Prop := teditPlacesRow.holds Tryz.pinned (OpenSpec.ofChange teditPlacesSpec)

/-- ITS FALSE NEIGHBOUR: 'it returns false'. Refute it at one input. -/
def teditPlacesWrong : ChangeSpec := { name := "teditPlaces", fn := fun _ => fun
  | [d1, d2, d3] => { results := [.lit (.bool false)], args := [d1, d2, d3] }
  | _ => none }
def TeditPlacesWrongFalsely : Prop := teditPlacesRow.holds Tryz.pinned (OpenSpec.ofChange teditPlacesWrong)

/-- 'pelotonlaw16.TeditBack': WHATEVER THE INPUT: true; the input reads as it did. -/
def teditBackSpec : ChangeSpec := { name := "teditBack", fn := fun _ => fun
  | [d1, d2, d3] => { results := [.lit (.bool true)], args := [d1, d2, d3] }
  | _ => none }
def teditBackRow : OpenClaim := { program := "ytbgoiokedpjgbaagreat", sum := "22984f2bf58a7935117eb5c71d2453fb8aae85a889bdca62392e5bc547000524", func := "peloton/pelotonlaw16.TeditBack", spec := "teditBack", inPlace := ["math/bits.Add64", "slices.overlaps[peloton/api.Point]"], unfollowed := true, recurses := true, plainKeys := false, apart := false }
def TeditBackSaid : Prop := teditBackRow.holds Tryz.pinned (OpenSpec.ofChange teditBackSpec)

/-- ITS FALSE NEIGHBOUR: 'it returns false'. Refute it at one input. -/
def teditBackWrong : ChangeSpec := { name := "teditBack", fn := fun _ => fun
  | [d1, d2, d3] => { results := [.lit (.bool false)], args := [d1, d2, d3] }
  | _ => none }
def TeditBackWrongFalsely : Prop := teditBackRow.holds Tryz.pinned (OpenSpec.ofChange teditBackWrong)

/-- 'pelotonlaw16.TeditQuarter': WHATEVER THE INPUT: true; the input reads as it did. -/
def teditQuarterSpec : ChangeSpec := { name := "teditQuarter", fn := fun _ => fun
  | [d] => { results := [.lit (.bool true)], args := [d] }
  | _ => none }
def teditQuarterRow : OpenClaim := { program := "ytbgoiokedpjgbaagreat", sum := "22984f2bf58a7935117eb5c71d2453fb8aae85a889bdca62392e5bc547000524", func := "peloton/pelotonlaw16.TeditQuarter", spec := "teditQuarter", inPlace := ["math/bits.Add64", "slices.overlaps[peloton/api.Point]"], unfollowed := true, recurses := true, plainKeys := false, apart := false }
def TeditQuarterSaid : Prop := teditQuarterRow.holds Tryz.pinned (OpenSpec.ofChange teditQuarterSpec)

/-- ITS FALSE NEIGHBOUR: 'it returns false'. Refute it at one input. -/
def teditQuarterWrong : ChangeSpec := { name := "teditQuarter", fn := fun _ => fun
  | [d] => { results := [.lit (.bool false)], args := [d] }
  | _ => none }
def TeditQuarterWrongFalsely : Prop := teditQuarterRow.holds Tryz.pinned (OpenSpec.ofChange teditQuarterWrong)

/-- 'pelotonlaw16.TeditAnew': WHATEVER THE INPUT: true; the input reads as it did. -/
def teditAnewSpec : ChangeSpec := { name := "teditAnew", fn := fun _ => fun
  | [d1, d2, d3, d4] => { results := [.lit (.bool true)], args := [d1, d2, d3, d4] }
  | _ => none }
def teditAnewRow : OpenClaim := { program := "ytbgoiokedpjgbaagreat", sum := "22984f2bf58a7935117eb5c71d2453fb8aae85a889bdca62392e5bc547000524", func := "peloton/pelotonlaw16.TeditAnew", spec := "teditAnew", inPlace := ["math/bits.Add64", "slices.overlaps[peloton/api.Point]"], unfollowed := true, recurses := true, plainKeys := false, apart := false }
def TeditAnewSaid : Prop := teditAnewRow.holds Tryz.pinned (OpenSpec.ofChange teditAnewSpec)

/-- ITS FALSE NEIGHBOUR: 'it returns false'. Refute it at one input. -/
def teditAnewWrong : ChangeSpec := { name := "teditAnew", fn := fun _ => fun
  | [d1, d2, d3, d4] => { results := [.lit (.bool false)], args := [d1, d2, d3, d4] }
  | _ => none }
def TeditAnewWrongFalsely : Prop := teditAnewRow.holds Tryz.pinned (OpenSpec.ofChange teditAnewWrong)

/- THE SECOND FORM. 'bulk': how many values and letters a reading holds, each counted each time it is reached (what is shared counts as often as it is met; a slice's spare places count too). A statement '..UptoSaid' is the law's where the arguments, and the package variables that the reading takes, are together of bulk at most 1048576: NARROWER than '..Said'. Prove '..Said' where nothing that the law and all that it calls make is longer than what came in: it says more and counts as full. Else prove '..UptoSaid'. A law counts once. -/
mutual
def uptoBulk {H : Type} : DataW H → Nat
  | .lit (.string bytes) => bytes.length + 1
  | .lit _ => 1
  | .nil => 1
  | .ptr d => uptoBulk d + 1
  | .slice elems spare => uptoBulkAll elems + uptoBulkAll spare + 1
  | .agg parts => uptoBulkAll parts + 1
  | .iface _ d => uptoBulk d + 1
  | .map entries => uptoBulkEntries entries + 1
  | .held _ => 1
def uptoBulkAll {H : Type} : List (DataW H) → Nat
  | [] => 0
  | d :: r => uptoBulk d + uptoBulkAll r
def uptoBulkEntries {H : Type} : List (Lit × DataW H) → Nat
  | [] => 0
  | x :: r => uptoBulkEntry x + uptoBulkEntries r
def uptoBulkEntry {H : Type} : Lit × DataW H → Nat
  | (.string bytes, d) => bytes.length + uptoBulk d + 1
  | (_, d) => uptoBulk d + 1
 end
def uptoSmall : (H : Type) → List (DataW H) → Bool := fun _ ds => decide (uptoBulkAll ds ≤ 1048576)
def OpenSpec.upto (s : _root_.Go.ChangeSpec) : _root_.Go.OpenSpec := { _root_.Go.OpenSpec.ofChange s with cond := some uptoSmall }

/-- 'pelotonlaw16.TeditTakes', WHERE WHAT IT READS IS OF BULK AT MOST 1048576: true; the input reads as it did. -/
def teditTakesUptoRow : OpenClaim := { program := "ytbgoiokedpjgbaagreat", sum := "22984f2bf58a7935117eb5c71d2453fb8aae85a889bdca62392e5bc547000524", func := "peloton/pelotonlaw16.TeditTakes", spec := "teditTakes", inPlace := ["math/bits.Add64"], unfollowed := true, recurses := true, plainKeys := false, apart := false, narrowed := true }
def TeditTakesUptoSaid : Prop := teditTakesUptoRow.holds Tryz.pinned (OpenSpec.upto teditTakesSpec)

/-- 'pelotonlaw16.TeditPlaces', WHERE WHAT IT READS IS OF BULK AT MOST 1048576: true; the input reads as it did. -/
def teditPlacesUptoRow : OpenClaim := { program := "ytbgoiokedpjgbaagreat", sum := "22984f2bf58a7935117eb5c71d2453fb8aae85a889bdca62392e5bc547000524", func := "peloton/pelotonlaw16.TeditPlaces", spec := "teditPlaces", inPlace := ["math/bits.Add64", "slices.overlaps[peloton/api.Point]"], unfollowed := true, recurses := true, plainKeys := false, apart := false, narrowed := true }
def TeditPlacesUptoSaid : Prop := teditPlacesUptoRow.holds Tryz.pinned (OpenSpec.upto teditPlacesSpec)

/-- 'pelotonlaw16.TeditBack', WHERE WHAT IT READS IS OF BULK AT MOST 1048576: true; the input reads as it did. -/
def teditBackUptoRow : OpenClaim := { program := "ytbgoiokedpjgbaagreat", sum := "22984f2bf58a7935117eb5c71d2453fb8aae85a889bdca62392e5bc547000524", func := "peloton/pelotonlaw16.TeditBack", spec := "teditBack", inPlace := ["math/bits.Add64", "slices.overlaps[peloton/api.Point]"], unfollowed := true, recurses := true, plainKeys := false, apart := false, narrowed := true }
def TeditBackUptoSaid : Prop := teditBackUptoRow.holds Tryz.pinned (OpenSpec.upto teditBackSpec)

/-- 'pelotonlaw16.TeditQuarter', WHERE WHAT IT READS IS OF BULK AT MOST 1048576: true; the input reads as it did. -/
def teditQuarterUptoRow : OpenClaim := { program := "ytbgoiokedpjgbaagreat", sum := "22984f2bf58a7935117eb5c71d2453fb8aae85a889bdca62392e5bc547000524", func := "peloton/pelotonlaw16.TeditQuarter", spec := "teditQuarter", inPlace := ["math/bits.Add64", "slices.overlaps[peloton/api.Point]"], unfollowed := true, recurses := true, plainKeys := false, apart := false, narrowed := true }
def TeditQuarterUptoSaid : Prop := teditQuarterUptoRow.holds Tryz.pinned (OpenSpec.upto teditQuarterSpec)

/-- 'pelotonlaw16.TeditAnew', WHERE WHAT IT READS IS OF BULK AT MOST 1048576: true; the input reads as it did. -/
def teditAnewUptoRow : OpenClaim := { program := "ytbgoiokedpjgbaagreat", sum := "22984f2bf58a7935117eb5c71d2453fb8aae85a889bdca62392e5bc547000524", func := "peloton/pelotonlaw16.TeditAnew", spec := "teditAnew", inPlace := ["math/bits.Add64", "slices.overlaps[peloton/api.Point]"], unfollowed := true, recurses := true, plainKeys := false, apart := false, narrowed := true }
def TeditAnewUptoSaid : Prop := teditAnewUptoRow.holds Tryz.pinned (OpenSpec.upto teditAnewSpec)

end Rows
end Go.Proofs.YtbgoiokedpjgbaaGreat
