/-
  No cell of these rows narrows 'for every input' (looked for: loops, veiled, ifaces, maps, wideKeys, modest, calm, conditions, laid).
  DERIVED. THE GIVEN ROWS OF THIS SEAT. 7 by the template 'for every input the law returns true; each argument reads behind the call as it read before'; 0 by the template 'total and deterministic' (their statements: YtfejhjllooomlaaGreatTotals.lean).
  GIVEN WITH THE SEED: the statements are not yours to turn. If you find one false, say at which input.
  Laid BY PROGRAM, IN A SANDBOX (cutbox-rows.mjs): the forced cells as the released guide's own fill.sh prints them over the translation 11339ea69214d4e6… (all of the seat's roots in one cut). By AI agents, Wed Nov 11 2026. No macro, syntax, notation, axiom, sorry.
-/
import Derived.Test.YtfejhjllooomlaaGreatChecked
import GoSem.Claim
import GoSem.ClaimJoined
import GoSem.ClaimMapViews
import Derived.JoinedTies
import Derived.KernelRfl
namespace Go.Proofs.YtfejhjllooomlaaGreat
/- THE CELL 'sum', in the pinned program and in every row, IS THE sha256 OF THE DUMP (.gsa) THAT YtfejhjllooomlaaGreatProg.lean LOADS. Nothing in Lean hashes anything: it is a label: what it is worth is what the hold of that sum in a sandbox is worth. -/
noncomputable def Tryz.pinned : Pinned := { name := "ytfejhjllooomlaagreat", sum := "11339ea69214d4e63e6c48c5dbf5ad6570134c8109b45347f9c47f951b482db7", checked := Tryz.checked }
namespace Rows
def none {H : Type} : Left H := { results := [], args := [] }

/-- 'pelotonlaw13.KheapParts': WHATEVER THE INPUT: true; the input reads as it did. -/
def kheapPartsSpec : ChangeSpec := { name := "kheapParts", fn := fun _ => fun
  | [d1, d2, d3] => { results := [.lit (.bool true)], args := [d1, d2, d3] }
  | _ => none }
def kheapPartsRow : OpenClaim := { program := "ytfejhjllooomlaagreat", sum := "11339ea69214d4e63e6c48c5dbf5ad6570134c8109b45347f9c47f951b482db7", func := "peloton/pelotonlaw13.KheapParts", spec := "kheapParts", inPlace := ["math/bits.Add64"], unfollowed := true, recurses := true, plainKeys := false, apart := false }
def KheapPartsSaid : Prop := kheapPartsRow.holds Tryz.pinned (OpenSpec.ofChange kheapPartsSpec)

/-- ITS FALSE NEIGHBOUR: 'it returns false'. Refute it at one input. -/
def kheapPartsWrong : ChangeSpec := { name := "kheapParts", fn := fun _ => fun
  | [d1, d2, d3] => { results := [.lit (.bool false)], args := [d1, d2, d3] }
  | _ => none }
def KheapPartsWrongFalsely : Prop := kheapPartsRow.holds Tryz.pinned (OpenSpec.ofChange kheapPartsWrong)

/-- 'pelotonlaw13.KheapLeads': WHATEVER THE INPUT: true; the input reads as it did. -/
def kheapLeadsSpec : ChangeSpec := { name := "kheapLeads", fn := fun _ => fun
  | [d1, d2, d3] => { results := [.lit (.bool true)], args := [d1, d2, d3] }
  | _ => none }
def kheapLeadsRow : OpenClaim := { program := "ytfejhjllooomlaagreat", sum := "11339ea69214d4e63e6c48c5dbf5ad6570134c8109b45347f9c47f951b482db7", func := "peloton/pelotonlaw13.KheapLeads", spec := "kheapLeads", inPlace := ["math/bits.Add64"], unfollowed := true, recurses := true, plainKeys := false, apart := false }
def KheapLeadsSaid : Prop := kheapLeadsRow.holds Tryz.pinned (OpenSpec.ofChange kheapLeadsSpec)

/-- ITS FALSE NEIGHBOUR: 'it returns false'. Refute it at one input. -/
def kheapLeadsWrong : ChangeSpec := { name := "kheapLeads", fn := fun _ => fun
  | [d1, d2, d3] => { results := [.lit (.bool false)], args := [d1, d2, d3] }
  | _ => none }
def KheapLeadsWrongFalsely : Prop := kheapLeadsRow.holds Tryz.pinned (OpenSpec.ofChange kheapLeadsWrong)

/-- 'pelotonlaw13.KheapEvents': WHATEVER THE INPUT: true; the input reads as it did. -/
def kheapEventsSpec : ChangeSpec := { name := "kheapEvents", fn := fun _ => fun
  | [d1, d2] => { results := [.lit (.bool true)], args := [d1, d2] }
  | _ => none }
def kheapEventsRow : OpenClaim := { program := "ytfejhjllooomlaagreat", sum := "11339ea69214d4e63e6c48c5dbf5ad6570134c8109b45347f9c47f951b482db7", func := "peloton/pelotonlaw13.KheapEvents", spec := "kheapEvents", inPlace := ["math/bits.Add64"], unfollowed := true, recurses := true, plainKeys := false, apart := false }
def KheapEventsSaid : Prop := kheapEventsRow.holds Tryz.pinned (OpenSpec.ofChange kheapEventsSpec)

/-- ITS FALSE NEIGHBOUR: 'it returns false'. Refute it at one input. -/
def kheapEventsWrong : ChangeSpec := { name := "kheapEvents", fn := fun _ => fun
  | [d1, d2] => { results := [.lit (.bool false)], args := [d1, d2] }
  | _ => none }
def KheapEventsWrongFalsely : Prop := kheapEventsRow.holds Tryz.pinned (OpenSpec.ofChange kheapEventsWrong)

/-- 'pelotonlaw14.HeditPuts': WHATEVER THE INPUT: true; the input reads as it did. -/
def heditPutsSpec : ChangeSpec := { name := "heditPuts", fn := fun _ => fun
  | [d1, d2, d3] => { results := [.lit (.bool true)], args := [d1, d2, d3] }
  | _ => none }
def heditPutsRow : OpenClaim := { program := "ytfejhjllooomlaagreat", sum := "11339ea69214d4e63e6c48c5dbf5ad6570134c8109b45347f9c47f951b482db7", func := "peloton/pelotonlaw14.HeditPuts", spec := "heditPuts", inPlace := ["math/bits.Add64", "slices.overlaps[peloton/api.Point]"], unfollowed := true, recurses := true, plainKeys := false, apart := false }
def HeditPutsSaid : Prop := heditPutsRow.holds Tryz.pinned (OpenSpec.ofChange heditPutsSpec)

/-- ITS FALSE NEIGHBOUR: 'it returns false'. Refute it at one input. -/
def heditPutsWrong : ChangeSpec := { name := "heditPuts", fn := fun _ => fun
  | [d1, d2, d3] => { results := [.lit (.bool false)], args := [d1, d2, d3] }
  | _ => none }
def HeditPutsWrongFalsely : Prop := heditPutsRow.holds Tryz.pinned (OpenSpec.ofChange heditPutsWrong)

/-- 'pelotonlaw14.HeditBack': WHATEVER THE INPUT: true; the input reads as it did. -/
def heditBackSpec : ChangeSpec := { name := "heditBack", fn := fun _ => fun
  | [d1, d2, d3] => { results := [.lit (.bool true)], args := [d1, d2, d3] }
  | _ => none }
def heditBackRow : OpenClaim := { program := "ytfejhjllooomlaagreat", sum := "11339ea69214d4e63e6c48c5dbf5ad6570134c8109b45347f9c47f951b482db7", func := "peloton/pelotonlaw14.HeditBack", spec := "heditBack", inPlace := ["math/bits.Add64", "slices.overlaps[peloton/api.Point]"], unfollowed := true, recurses := true, plainKeys := false, apart := false }
def HeditBackSaid : Prop := heditBackRow.holds Tryz.pinned (OpenSpec.ofChange heditBackSpec)

/-- ITS FALSE NEIGHBOUR: 'it returns false'. Refute it at one input. -/
def heditBackWrong : ChangeSpec := { name := "heditBack", fn := fun _ => fun
  | [d1, d2, d3] => { results := [.lit (.bool false)], args := [d1, d2, d3] }
  | _ => none }
def HeditBackWrongFalsely : Prop := heditBackRow.holds Tryz.pinned (OpenSpec.ofChange heditBackWrong)

/-- 'pelotonlaw14.HeditMoves': WHATEVER THE INPUT: true; the input reads as it did. -/
def heditMovesSpec : ChangeSpec := { name := "heditMoves", fn := fun _ => fun
  | [d1, d2] => { results := [.lit (.bool true)], args := [d1, d2] }
  | _ => none }
def heditMovesRow : OpenClaim := { program := "ytfejhjllooomlaagreat", sum := "11339ea69214d4e63e6c48c5dbf5ad6570134c8109b45347f9c47f951b482db7", func := "peloton/pelotonlaw14.HeditMoves", spec := "heditMoves", inPlace := ["math/bits.Add64", "slices.overlaps[peloton/api.Point]"], unfollowed := true, recurses := true, plainKeys := false, apart := false }
def HeditMovesSaid : Prop := heditMovesRow.holds Tryz.pinned (OpenSpec.ofChange heditMovesSpec)

/-- ITS FALSE NEIGHBOUR: 'it returns false'. Refute it at one input. -/
def heditMovesWrong : ChangeSpec := { name := "heditMoves", fn := fun _ => fun
  | [d1, d2] => { results := [.lit (.bool false)], args := [d1, d2] }
  | _ => none }
def HeditMovesWrongFalsely : Prop := heditMovesRow.holds Tryz.pinned (OpenSpec.ofChange heditMovesWrong)

/-- 'pelotonlaw14.HeditAnew': WHATEVER THE INPUT: true; the input reads as it did. -/
def heditAnewSpec : ChangeSpec := { name := "heditAnew", fn := fun _ => fun
  | [d1, d2, d3, d4] => { results := [.lit (.bool true)], args := [d1, d2, d3, d4] }
  | _ => none }
def heditAnewRow : OpenClaim := { program := "ytfejhjllooomlaagreat", sum := "11339ea69214d4e63e6c48c5dbf5ad6570134c8109b45347f9c47f951b482db7", func := "peloton/pelotonlaw14.HeditAnew", spec := "heditAnew", inPlace := ["math/bits.Add64", "slices.overlaps[peloton/api.Point]"], unfollowed := true, recurses := true, plainKeys := false, apart := false }
def HeditAnewSaid : Prop := heditAnewRow.holds Tryz.pinned (OpenSpec.ofChange heditAnewSpec)

/-- ITS FALSE NEIGHBOUR: 'it returns false'. Refute it at one input. -/
def heditAnewWrong : ChangeSpec := { name := "heditAnew", fn := fun _ => fun
  | [d1, d2, d3, d4] => { results := [.lit (.bool false)], args := [d1, d2, d3, d4] }
  | _ => none }
def HeditAnewWrongFalsely : Prop := heditAnewRow.holds Tryz.pinned (OpenSpec.ofChange heditAnewWrong)

/- THE SECOND FORM. 'bulk': how many values and letters a reading holds, each counted each time it is reached (what is shared counts as often as it is met; a slice's spare places count too). A statement '..UptoSaid' is the law's where the arguments, and the package variables that the reading takes, are together of bulk at most 1048576: NARROWER than '..Said'. Prove '..Said' where nothing that the law and all that it calls make is longer than what came in: it says more and counts as full. Else prove '..UptoSaid'. A law counts once. -/
mutual
def uptoBulk {H : Type} : DataW H → Nat
  | .lit (.string bytes) => bytes.length + 1
  | .lit _ => 1
  | .nil => 1
  | .ptr d => uptoBulk d + 1
  | .slice elems spare => uptoBulkAll elems + uptoBulkAll spare + 1
  | .agg parts => uptoBulkAll parts + 1
  | .iface _ d => uptoBulk d + 1
  | .map entries => uptoBulkEntries entries + 1
  | .held _ => 1
def uptoBulkAll {H : Type} : List (DataW H) → Nat
  | [] => 0
  | d :: r => uptoBulk d + uptoBulkAll r
def uptoBulkEntries {H : Type} : List (Lit × DataW H) → Nat
  | [] => 0
  | x :: r => uptoBulkEntry x + uptoBulkEntries r
def uptoBulkEntry {H : Type} : Lit × DataW H → Nat
  | (.string bytes, d) => bytes.length + uptoBulk d + 1
  | (_, d) => uptoBulk d + 1
 end
def uptoSmall : (H : Type) → List (DataW H) → Bool := fun _ ds => decide (uptoBulkAll ds ≤ 1048576)
def OpenSpec.upto (s : _root_.Go.ChangeSpec) : _root_.Go.OpenSpec := { _root_.Go.OpenSpec.ofChange s with cond := some uptoSmall }

/-- 'pelotonlaw13.KheapParts', WHERE WHAT IT READS IS OF BULK AT MOST 1048576: true; the input reads as it did. -/
def kheapPartsUptoRow : OpenClaim := { program := "ytfejhjllooomlaagreat", sum := "11339ea69214d4e63e6c48c5dbf5ad6570134c8109b45347f9c47f951b482db7", func := "peloton/pelotonlaw13.KheapParts", spec := "kheapParts", inPlace := ["math/bits.Add64"], unfollowed := true, recurses := true, plainKeys := false, apart := false, narrowed := true }
def KheapPartsUptoSaid : Prop := kheapPartsUptoRow.holds Tryz.pinned (OpenSpec.upto kheapPartsSpec)

/-- 'pelotonlaw13.KheapLeads', WHERE WHAT IT READS IS OF BULK AT MOST 1048576: true; the input reads as it did. -/
def kheapLeadsUptoRow : OpenClaim := { program := "ytfejhjllooomlaagreat", sum := "11339ea69214d4e63e6c48c5dbf5ad6570134c8109b45347f9c47f951b482db7", func := "peloton/pelotonlaw13.KheapLeads", spec := "kheapLeads", inPlace := ["math/bits.Add64"], unfollowed := true, recurses := true, plainKeys := false, apart := false, narrowed := true }
def KheapLeadsUptoSaid : Prop := kheapLeadsUptoRow.holds Tryz.pinned (OpenSpec.upto kheapLeadsSpec)

/-- 'pelotonlaw13.KheapEvents', WHERE WHAT IT READS IS OF BULK AT MOST 1048576: true; the input reads as it did. -/
def kheapEventsUptoRow : OpenClaim := { program := "ytfejhjllooomlaagreat", sum := "11339ea69214d4e63e6c48c5dbf5ad6570134c8109b45347f9c47f951b482db7", func := "peloton/pelotonlaw13.KheapEvents", spec := "kheapEvents", inPlace := ["math/bits.Add64"], unfollowed := true, recurses := true, plainKeys := false, apart := false, narrowed := true }
def KheapEventsUptoSaid : Prop := kheapEventsUptoRow.holds Tryz.pinned (OpenSpec.upto kheapEventsSpec)

/-- 'pelotonlaw14.HeditPuts', WHERE WHAT IT READS IS OF BULK AT MOST 1048576: true; the input reads as it did. -/
def heditPutsUptoRow : OpenClaim := { program := "ytfejhjllooomlaagreat", sum := "11339ea69214d4e63e6c48c5dbf5ad6570134c8109b45347f9c47f951b482db7", func := "peloton/pelotonlaw14.HeditPuts", spec := "heditPuts", inPlace := ["math/bits.Add64", "slices.overlaps[peloton/api.Point]"], unfollowed := true, recurses := true, plainKeys := false, apart := false, narrowed := true }
def HeditPutsUptoSaid : Prop := heditPutsUptoRow.holds Tryz.pinned (OpenSpec.upto heditPutsSpec)

/-- 'pelotonlaw14.HeditBack', WHERE WHAT IT READS IS OF BULK AT MOST 1048576: true; the input reads as it did. -/
def heditBackUptoRow : OpenClaim := { program := "ytfejhjllooomlaagreat", sum := "11339ea69214d4e63e6c48c5dbf5ad6570134c8109b45347f9c47f951b482db7", func := "peloton/pelotonlaw14.HeditBack", spec := "heditBack", inPlace := ["math/bits.Add64", "slices.overlaps[peloton/api.Point]"], unfollowed := true, recurses := true, plainKeys := false, apart := false, narrowed := true }
def HeditBackUptoSaid : Prop := heditBackUptoRow.holds Tryz.pinned (OpenSpec.upto heditBackSpec)

/-- 'pelotonlaw14.HeditMoves', WHERE WHAT IT READS IS OF BULK AT MOST 1048576: true; the input reads as it did. -/
def heditMovesUptoRow : OpenClaim := { program := "ytfejhjllooomlaagreat", sum := "11339ea69214d4e63e6c48c5dbf5ad6570134c8109b45347f9c47f951b482db7", func := "peloton/pelotonlaw14.HeditMoves", spec := "heditMoves", inPlace := ["math/bits.Add64", "slices.overlaps[peloton/api.Point]"], unfollowed := true, recurses := true, plainKeys := false, apart := false, narrowed := true }
def HeditMovesUptoSaid : Prop := heditMovesUptoRow.holds Tryz.pinned (OpenSpec.upto heditMovesSpec)

/-- 'pelotonlaw14.HeditAnew', WHERE WHAT IT READS IS OF BULK AT MOST 1048576: true; the input reads as it did. -/
def heditAnewUptoRow : OpenClaim := { program := "ytfejhjllooomlaagreat", sum := "11339ea69214d4e63e6c48c5dbf5ad6570134c8109b45347f9c47f951b482db7", func := "peloton/pelotonlaw14.HeditAnew", spec := "heditAnew", inPlace := ["math/bits.Add64", "slices.overlaps[peloton/api.Point]"], unfollowed := true, recurses := true, plainKeys := false, apart := false, narrowed := true }
def HeditAnewUptoSaid : Prop := heditAnewUptoRow.holds Tryz.pinned (OpenSpec.upto heditAnewSpec)

end Rows
end Go.Proofs.YtfejhjllooomlaaGreat
