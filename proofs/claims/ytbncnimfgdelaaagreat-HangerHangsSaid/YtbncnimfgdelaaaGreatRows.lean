/-
  No cell of these rows narrows 'for every input' (looked for: loops, veiled, ifaces, maps, wideKeys, modest, calm, conditions, laid).
  DERIVED. THE GIVEN ROWS OF THIS SEAT. 7 by the template 'for every input the law returns true; each argument reads behind the call as it read before'; 0 by the template 'total and deterministic' (their statements: YtbncnimfgdelaaaGreatTotals.lean).
  GIVEN WITH THE SEED: the statements are not yours to turn. If you find one false, say at which input.
  Laid BY PROGRAM, IN A SANDBOX (cutbox-rows.mjs): the forced cells as the released guide's own fill.sh prints them over the translation c8c4d6f69ee90570… (all of the seat's roots in one cut). By AI agents, Wed Nov 11 2026. No macro, syntax, notation, axiom, sorry.
-/
import Derived.Test.YtbncnimfgdelaaaGreatChecked
import GoSem.Claim
import GoSem.ClaimJoined
import GoSem.ClaimMapViews
import Derived.JoinedTies
import Derived.KernelRfl
namespace Go.Proofs.YtbncnimfgdelaaaGreat
/- THE CELL 'sum', in the pinned program and in every row, IS THE sha256 OF THE DUMP (.gsa) THAT YtbncnimfgdelaaaGreatProg.lean LOADS. Nothing in Lean hashes anything: it is a label: what it is worth is what the hold of that sum in a sandbox is worth. -/
noncomputable def Tryz.pinned : Pinned := { name := "ytbncnimfgdelaaagreat", sum := "c8c4d6f69ee90570ffec40bc109f994ef86f443a1f3a13d8fddac1f337838230", checked := Tryz.checked }
namespace Rows
def none {H : Type} : Left H := { results := [], args := [] }

/-- 'pelotonlaw19.HangerBuilds': WHATEVER THE INPUT: true; the input reads as it did. -/
def hangerBuildsSpec : ChangeSpec := { name := "hangerBuilds", fn := fun _ => fun
  | [d1, d2, d3] => { results := [.lit (.bool true)], args := [d1, d2, d3] }
  | _ => none }
def hangerBuildsRow : OpenClaim := { program := "ytbncnimfgdelaaagreat", sum := "c8c4d6f69ee90570ffec40bc109f994ef86f443a1f3a13d8fddac1f337838230", func := "peloton/pelotonlaw19.HangerBuilds", spec := "hangerBuilds", inPlace := ["math/bits.Add64"], unfollowed := true, recurses := true, plainKeys := false, apart := false }
def HangerBuildsSaid : Prop := hangerBuildsRow.holds Tryz.pinned (OpenSpec.ofChange hangerBuildsSpec)

/-- ITS FALSE NEIGHBOUR: 'it returns false'. Refute it at one input. -/
def hangerBuildsWrong : ChangeSpec := { name := "hangerBuilds", fn := fun _ => fun
  | [d1, d2, d3] => { results := [.lit (.bool false)], args := [d1, d2, d3] }
  | _ => none }
def HangerBuildsWrongFalsely : Prop := hangerBuildsRow.holds Tryz.pinned (OpenSpec.ofChange hangerBuildsWrong)

/-- 'pelotonlaw19.HangerHangs': WHATEVER THE INPUT: true; the input reads as it did. -/
def hangerHangsSpec : ChangeSpec := { name := "hangerHangs", fn := fun _ => fun
  | [d1, d2] => { results := [.lit (.bool true)], args := [d1, d2] }
  | _ => none }
def hangerHangsRow : OpenClaim := { program := "ytbncnimfgdelaaagreat", sum := "c8c4d6f69ee90570ffec40bc109f994ef86f443a1f3a13d8fddac1f337838230", func := "peloton/pelotonlaw19.HangerHangs", spec := "hangerHangs", inPlace := ["math/bits.Add64"], unfollowed := true, recurses := true, plainKeys := false, apart := false }
def HangerHangsSaid : Prop := hangerHangsRow.holds Tryz.pinned (OpenSpec.ofChange hangerHangsSpec)

/-- ITS FALSE NEIGHBOUR: 'it returns false'. Refute it at one input. -/
def hangerHangsWrong : ChangeSpec := { name := "hangerHangs", fn := fun _ => fun
  | [d1, d2] => { results := [.lit (.bool false)], args := [d1, d2] }
  | _ => none }
def HangerHangsWrongFalsely : Prop := hangerHangsRow.holds Tryz.pinned (OpenSpec.ofChange hangerHangsWrong)

/-- 'pelotonlaw19.HangerMoves': WHATEVER THE INPUT: true; the input reads as it did. -/
def hangerMovesSpec : ChangeSpec := { name := "hangerMoves", fn := fun _ => fun
  | [d1, d2, d3, d4] => { results := [.lit (.bool true)], args := [d1, d2, d3, d4] }
  | _ => none }
def hangerMovesRow : OpenClaim := { program := "ytbncnimfgdelaaagreat", sum := "c8c4d6f69ee90570ffec40bc109f994ef86f443a1f3a13d8fddac1f337838230", func := "peloton/pelotonlaw19.HangerMoves", spec := "hangerMoves", inPlace := ["math/bits.Add64", "slices.overlaps[peloton/api.Point]"], unfollowed := true, recurses := true, plainKeys := false, apart := false }
def HangerMovesSaid : Prop := hangerMovesRow.holds Tryz.pinned (OpenSpec.ofChange hangerMovesSpec)

/-- ITS FALSE NEIGHBOUR: 'it returns false'. Refute it at one input. -/
def hangerMovesWrong : ChangeSpec := { name := "hangerMoves", fn := fun _ => fun
  | [d1, d2, d3, d4] => { results := [.lit (.bool false)], args := [d1, d2, d3, d4] }
  | _ => none }
def HangerMovesWrongFalsely : Prop := hangerMovesRow.holds Tryz.pinned (OpenSpec.ofChange hangerMovesWrong)

/-- 'pelotonlaw19.HangerEdits': WHATEVER THE INPUT: true; the input reads as it did. -/
def hangerEditsSpec : ChangeSpec := { name := "hangerEdits", fn := fun _ => fun
  | [d1, d2, d3] => { results := [.lit (.bool true)], args := [d1, d2, d3] }
  | _ => none }
def hangerEditsRow : OpenClaim := { program := "ytbncnimfgdelaaagreat", sum := "c8c4d6f69ee90570ffec40bc109f994ef86f443a1f3a13d8fddac1f337838230", func := "peloton/pelotonlaw19.HangerEdits", spec := "hangerEdits", inPlace := ["math/bits.Add64", "slices.overlaps[peloton/api.Point]"], unfollowed := true, recurses := true, plainKeys := false, apart := false }
def HangerEditsSaid : Prop := hangerEditsRow.holds Tryz.pinned (OpenSpec.ofChange hangerEditsSpec)

/-- ITS FALSE NEIGHBOUR: 'it returns false'. Refute it at one input. -/
def hangerEditsWrong : ChangeSpec := { name := "hangerEdits", fn := fun _ => fun
  | [d1, d2, d3] => { results := [.lit (.bool false)], args := [d1, d2, d3] }
  | _ => none }
def HangerEditsWrongFalsely : Prop := hangerEditsRow.holds Tryz.pinned (OpenSpec.ofChange hangerEditsWrong)

/-- 'pelotonlaw19.HangerNames': WHATEVER THE INPUT: true; the input reads as it did. -/
def hangerNamesSpec : ChangeSpec := { name := "hangerNames", fn := fun _ => fun
  | [] => { results := [.lit (.bool true)], args := [] }
  | _ => none }
def hangerNamesRow : OpenClaim := { program := "ytbncnimfgdelaaagreat", sum := "c8c4d6f69ee90570ffec40bc109f994ef86f443a1f3a13d8fddac1f337838230", func := "peloton/pelotonlaw19.HangerNames", spec := "hangerNames", inPlace := ["math/bits.Add64", "slices.overlaps[peloton/api.Point]"], unfollowed := true, recurses := true, plainKeys := false, apart := false }
def HangerNamesSaid : Prop := hangerNamesRow.holds Tryz.pinned (OpenSpec.ofChange hangerNamesSpec)

/-- ITS FALSE NEIGHBOUR: 'it returns false'. Refute it at one input. -/
def hangerNamesWrong : ChangeSpec := { name := "hangerNames", fn := fun _ => fun
  | [] => { results := [.lit (.bool false)], args := [] }
  | _ => none }
def HangerNamesWrongFalsely : Prop := hangerNamesRow.holds Tryz.pinned (OpenSpec.ofChange hangerNamesWrong)

/-- 'pelotonlaw19.HangerLeads': WHATEVER THE INPUT: true; the input reads as it did. -/
def hangerLeadsSpec : ChangeSpec := { name := "hangerLeads", fn := fun _ => fun
  | [d1, d2] => { results := [.lit (.bool true)], args := [d1, d2] }
  | _ => none }
def hangerLeadsRow : OpenClaim := { program := "ytbncnimfgdelaaagreat", sum := "c8c4d6f69ee90570ffec40bc109f994ef86f443a1f3a13d8fddac1f337838230", func := "peloton/pelotonlaw19.HangerLeads", spec := "hangerLeads", inPlace := ["math/bits.Add64"], unfollowed := true, recurses := true, plainKeys := false, apart := false }
def HangerLeadsSaid : Prop := hangerLeadsRow.holds Tryz.pinned (OpenSpec.ofChange hangerLeadsSpec)

/-- ITS FALSE NEIGHBOUR: 'it returns false'. Refute it at one input. -/
def hangerLeadsWrong : ChangeSpec := { name := "hangerLeads", fn := fun _ => fun
  | [d1, d2] => { results := [.lit (.bool false)], args := [d1, d2] }
  | _ => none }
def HangerLeadsWrongFalsely : Prop := hangerLeadsRow.holds Tryz.pinned (OpenSpec.ofChange hangerLeadsWrong)

/-- 'pelotonlaw19.HangerEvents': WHATEVER THE INPUT: true; the input reads as it did. -/
def hangerEventsSpec : ChangeSpec := { name := "hangerEvents", fn := fun _ => fun
  | [d1, d2, d3] => { results := [.lit (.bool true)], args := [d1, d2, d3] }
  | _ => none }
def hangerEventsRow : OpenClaim := { program := "ytbncnimfgdelaaagreat", sum := "c8c4d6f69ee90570ffec40bc109f994ef86f443a1f3a13d8fddac1f337838230", func := "peloton/pelotonlaw19.HangerEvents", spec := "hangerEvents", inPlace := ["math/bits.Add64"], unfollowed := true, recurses := true, plainKeys := false, apart := false }
def HangerEventsSaid : Prop := hangerEventsRow.holds Tryz.pinned (OpenSpec.ofChange hangerEventsSpec)

/-- ITS FALSE NEIGHBOUR: 'it returns false'. Refute it at one input. -/
def hangerEventsWrong : ChangeSpec := { name := "hangerEvents", fn := fun _ => fun
  | [d1, d2, d3] => { results := [.lit (.bool false)], args := [d1, d2, d3] }
  | _ => none }
def HangerEventsWrongFalsely : Prop := hangerEventsRow.holds Tryz.pinned (OpenSpec.ofChange hangerEventsWrong)

/- THE SECOND FORM. 'bulk': how many values and letters a reading holds, each counted each time it is reached (what is shared counts as often as it is met; a slice's spare places count too). A statement '..UptoSaid' is the law's where the arguments, and the package variables that the reading takes, are together of bulk at most 1048576: NARROWER than '..Said'. Prove '..Said' where nothing that the law and all that it calls make is longer than what came in: it says more and counts as full. Else prove '..UptoSaid'. A law counts once. -/
mutual
def uptoBulk {H : Type} : DataW H → Nat
  | .lit (.string bytes) => bytes.length + 1
  | .lit _ => 1
  | .nil => 1
  | .ptr d => uptoBulk d + 1
  | .slice elems spare => uptoBulkAll elems + uptoBulkAll spare + 1
  | .agg parts => uptoBulkAll parts + 1
  | .iface _ d => uptoBulk d + 1
  | .map entries => uptoBulkEntries entries + 1
  | .held _ => 1
def uptoBulkAll {H : Type} : List (DataW H) → Nat
  | [] => 0
  | d :: r => uptoBulk d + uptoBulkAll r
def uptoBulkEntries {H : Type} : List (Lit × DataW H) → Nat
  | [] => 0
  | x :: r => uptoBulkEntry x + uptoBulkEntries r
def uptoBulkEntry {H : Type} : Lit × DataW H → Nat
  | (.string bytes, d) => bytes.length + uptoBulk d + 1
  | (_, d) => uptoBulk d + 1
 end
def uptoSmall : (H : Type) → List (DataW H) → Bool := fun _ ds => decide (uptoBulkAll ds ≤ 1048576)
def OpenSpec.upto (s : _root_.Go.ChangeSpec) : _root_.Go.OpenSpec := { _root_.Go.OpenSpec.ofChange s with cond := some uptoSmall }

/-- 'pelotonlaw19.HangerBuilds', WHERE WHAT IT READS IS OF BULK AT MOST 1048576: true; the input reads as it did. -/
def hangerBuildsUptoRow : OpenClaim := { program := "ytbncnimfgdelaaagreat", sum := "c8c4d6f69ee90570ffec40bc109f994ef86f443a1f3a13d8fddac1f337838230", func := "peloton/pelotonlaw19.HangerBuilds", spec := "hangerBuilds", inPlace := ["math/bits.Add64"], unfollowed := true, recurses := true, plainKeys := false, apart := false, narrowed := true }
def HangerBuildsUptoSaid : Prop := hangerBuildsUptoRow.holds Tryz.pinned (OpenSpec.upto hangerBuildsSpec)

/-- 'pelotonlaw19.HangerHangs', WHERE WHAT IT READS IS OF BULK AT MOST 1048576: true; the input reads as it did. -/
def hangerHangsUptoRow : OpenClaim := { program := "ytbncnimfgdelaaagreat", sum := "c8c4d6f69ee90570ffec40bc109f994ef86f443a1f3a13d8fddac1f337838230", func := "peloton/pelotonlaw19.HangerHangs", spec := "hangerHangs", inPlace := ["math/bits.Add64"], unfollowed := true, recurses := true, plainKeys := false, apart := false, narrowed := true }
def HangerHangsUptoSaid : Prop := hangerHangsUptoRow.holds Tryz.pinned (OpenSpec.upto hangerHangsSpec)

/-- 'pelotonlaw19.HangerMoves', WHERE WHAT IT READS IS OF BULK AT MOST 1048576: true; the input reads as it did. -/
def hangerMovesUptoRow : OpenClaim := { program := "ytbncnimfgdelaaagreat", sum := "c8c4d6f69ee90570ffec40bc109f994ef86f443a1f3a13d8fddac1f337838230", func := "peloton/pelotonlaw19.HangerMoves", spec := "hangerMoves", inPlace := ["math/bits.Add64", "slices.overlaps[peloton/api.Point]"], unfollowed := true, recurses := true, plainKeys := false, apart := false, narrowed := true }
def HangerMovesUptoSaid : Prop := hangerMovesUptoRow.holds Tryz.pinned (OpenSpec.upto hangerMovesSpec)

/-- 'pelotonlaw19.HangerEdits', WHERE WHAT IT READS IS OF BULK AT MOST 1048576: true; the input reads as it did. -/
def hangerEditsUptoRow : OpenClaim := { program := "ytbncnimfgdelaaagreat", sum := "c8c4d6f69ee90570ffec40bc109f994ef86f443a1f3a13d8fddac1f337838230", func := "peloton/pelotonlaw19.HangerEdits", spec := "hangerEdits", inPlace := ["math/bits.Add64", "slices.overlaps[peloton/api.Point]"], unfollowed := true, recurses := true, plainKeys := false, apart := false, narrowed := true }
def HangerEditsUptoSaid : Prop := hangerEditsUptoRow.holds Tryz.pinned (OpenSpec.upto hangerEditsSpec)

/-- 'pelotonlaw19.HangerNames', WHERE WHAT IT READS IS OF BULK AT MOST 1048576: true; the input reads as it did. -/
def hangerNamesUptoRow : OpenClaim := { program := "ytbncnimfgdelaaagreat", sum := "c8c4d6f69ee90570ffec40bc109f994ef86f443a1f3a13d8fddac1f337838230", func := "peloton/pelotonlaw19.HangerNames", spec := "hangerNames", inPlace := ["math/bits.Add64", "slices.overlaps[peloton/api.Point]"], unfollowed := true, recurses := true, plainKeys := false, apart := false, narrowed := true }
def HangerNamesUptoSaid : Prop := hangerNamesUptoRow.holds Tryz.pinned (OpenSpec.upto hangerNamesSpec)

/-- 'pelotonlaw19.HangerLeads', WHERE WHAT IT READS IS OF BULK AT MOST 1048576: true; the input reads as it did. -/
def hangerLeadsUptoRow : OpenClaim := { program := "ytbncnimfgdelaaagreat", sum := "c8c4d6f69ee90570ffec40bc109f994ef86f443a1f3a13d8fddac1f337838230", func := "peloton/pelotonlaw19.HangerLeads", spec := "hangerLeads", inPlace := ["math/bits.Add64"], unfollowed := true, recurses := true, plainKeys := false, apart := false, narrowed := true }
def HangerLeadsUptoSaid : Prop := hangerLeadsUptoRow.holds Tryz.pinned (OpenSpec.upto hangerLeadsSpec)

/-- 'pelotonlaw19.HangerEvents', WHERE WHAT IT READS IS OF BULK AT MOST 1048576: true; the input reads as it did. -/
def hangerEventsUptoRow : OpenClaim := { program := "ytbncnimfgdelaaagreat", sum := "c8c4d6f69ee90570ffec40bc109f994ef86f443a1f3a13d8fddac1f337838230", func := "peloton/pelotonlaw19.HangerEvents", spec := "hangerEvents", inPlace := ["math/bits.Add64"], unfollowed := true, recurses := true, plainKeys := false, apart := false, narrowed := true }
def HangerEventsUptoSaid : Prop := hangerEventsUptoRow.holds Tryz.pinned (OpenSpec.upto hangerEventsSpec)

end Rows
end Go.Proofs.YtbncnimfgdelaaaGreat
