/-
  No cell of these rows narrows 'for every input' (looked for: loops, veiled, ifaces, maps, wideKeys, modest, calm, conditions, laid).
  DERIVED. THE GIVEN ROWS OF THIS SEAT. 4 by the template 'for every input the law returns true; each argument reads behind the call as it read before'; 0 by the template 'total and deterministic' (their statements: YtmlghnibpjlchaaGreatTotals.lean).
  GIVEN WITH THE SEED: the statements are not yours to turn. If you find one false, say at which input.
  Laid BY PROGRAM, IN A SANDBOX (cutbox-rows.mjs): the forced cells as the released guide's own fill.sh prints them over the translation d45c0cb8d8f23509… (all of the seat's roots in one cut). By AI agents, Wed Nov 11 2026. No macro, syntax, notation, axiom, sorry.
-/
import Derived.Test.YtmlghnibpjlchaaGreatChecked
import GoSem.Claim
import GoSem.ClaimJoined
import GoSem.ClaimMapViews
import Derived.JoinedTies
import Derived.KernelRfl
namespace Go.Proofs.YtmlghnibpjlchaaGreat
/- THE CELL 'sum', in the pinned program and in every row, IS THE sha256 OF THE DUMP (.gsa) THAT YtmlghnibpjlchaaGreatProg.lean LOADS. Nothing in Lean hashes anything: it is a label: what it is worth is what the hold of that sum in a sandbox is worth. -/
noncomputable def Tryz.pinned : Pinned := { name := "ytmlghnibpjlchaagreat", sum := "d45c0cb8d8f235090d6d90eb3fc86a4f308499a7f55cb856a6ade088b0b7cfd8", checked := Tryz.checked }
namespace Rows
def none {H : Type} : Left H := { results := [], args := [] }

/-- 'pelotonlaw13.KheapAdvances': WHATEVER THE INPUT: true; the input reads as it did. -/
def kheapAdvancesSpec : ChangeSpec := { name := "kheapAdvances", fn := fun _ => fun
  | [d1, d2] => { results := [.lit (.bool true)], args := [d1, d2] }
  | _ => none }
def kheapAdvancesRow : OpenClaim := { program := "ytmlghnibpjlchaagreat", sum := "d45c0cb8d8f235090d6d90eb3fc86a4f308499a7f55cb856a6ade088b0b7cfd8", func := "peloton/pelotonlaw13.KheapAdvances", spec := "kheapAdvances", inPlace := ["math/bits.Add64"], unfollowed := true, recurses := true, plainKeys := false, apart := false }
def KheapAdvancesSaid : Prop := kheapAdvancesRow.holds Tryz.pinned (OpenSpec.ofChange kheapAdvancesSpec)

/-- ITS FALSE NEIGHBOUR: 'it returns false'. Refute it at one input. -/
def kheapAdvancesWrong : ChangeSpec := { name := "kheapAdvances", fn := fun _ => fun
  | [d1, d2] => { results := [.lit (.bool false)], args := [d1, d2] }
  | _ => none }
def KheapAdvancesWrongFalsely : Prop := kheapAdvancesRow.holds Tryz.pinned (OpenSpec.ofChange kheapAdvancesWrong)

/-- 'pelotonlaw14.HeditTakes': WHATEVER THE INPUT: true; the input reads as it did. -/
def heditTakesSpec : ChangeSpec := { name := "heditTakes", fn := fun _ => fun
  | [d1, d2] => { results := [.lit (.bool true)], args := [d1, d2] }
  | _ => none }
def heditTakesRow : OpenClaim := { program := "ytmlghnibpjlchaagreat", sum := "d45c0cb8d8f235090d6d90eb3fc86a4f308499a7f55cb856a6ade088b0b7cfd8", func := "peloton/pelotonlaw14.HeditTakes", spec := "heditTakes", inPlace := ["math/bits.Add64"], unfollowed := true, recurses := true, plainKeys := false, apart := false }
def HeditTakesSaid : Prop := heditTakesRow.holds Tryz.pinned (OpenSpec.ofChange heditTakesSpec)

/-- ITS FALSE NEIGHBOUR: 'it returns false'. Refute it at one input. -/
def heditTakesWrong : ChangeSpec := { name := "heditTakes", fn := fun _ => fun
  | [d1, d2] => { results := [.lit (.bool false)], args := [d1, d2] }
  | _ => none }
def HeditTakesWrongFalsely : Prop := heditTakesRow.holds Tryz.pinned (OpenSpec.ofChange heditTakesWrong)

/-- 'pelotonlaw13.KheapBuilds': WHATEVER THE INPUT: true; the input reads as it did. -/
def kheapBuildsSpec : ChangeSpec := { name := "kheapBuilds", fn := fun _ => fun
  | [d1, d2, d3] => { results := [.lit (.bool true)], args := [d1, d2, d3] }
  | _ => none }
def kheapBuildsRow : OpenClaim := { program := "ytmlghnibpjlchaagreat", sum := "d45c0cb8d8f235090d6d90eb3fc86a4f308499a7f55cb856a6ade088b0b7cfd8", func := "peloton/pelotonlaw13.KheapBuilds", spec := "kheapBuilds", inPlace := ["math/bits.Add64"], unfollowed := true, recurses := true, plainKeys := false, apart := false }
def KheapBuildsSaid : Prop := kheapBuildsRow.holds Tryz.pinned (OpenSpec.ofChange kheapBuildsSpec)

/-- ITS FALSE NEIGHBOUR: 'it returns false'. Refute it at one input. -/
def kheapBuildsWrong : ChangeSpec := { name := "kheapBuilds", fn := fun _ => fun
  | [d1, d2, d3] => { results := [.lit (.bool false)], args := [d1, d2, d3] }
  | _ => none }
def KheapBuildsWrongFalsely : Prop := kheapBuildsRow.holds Tryz.pinned (OpenSpec.ofChange kheapBuildsWrong)

/-- 'pelotonlaw14.HeditPuts': WHATEVER THE INPUT: true; the input reads as it did. -/
def heditPutsSpec : ChangeSpec := { name := "heditPuts", fn := fun _ => fun
  | [d1, d2, d3] => { results := [.lit (.bool true)], args := [d1, d2, d3] }
  | _ => none }
def heditPutsRow : OpenClaim := { program := "ytmlghnibpjlchaagreat", sum := "d45c0cb8d8f235090d6d90eb3fc86a4f308499a7f55cb856a6ade088b0b7cfd8", func := "peloton/pelotonlaw14.HeditPuts", spec := "heditPuts", inPlace := ["math/bits.Add64", "slices.overlaps[peloton/api.Point]"], unfollowed := true, recurses := true, plainKeys := false, apart := false }
def HeditPutsSaid : Prop := heditPutsRow.holds Tryz.pinned (OpenSpec.ofChange heditPutsSpec)

/-- ITS FALSE NEIGHBOUR: 'it returns false'. Refute it at one input. -/
def heditPutsWrong : ChangeSpec := { name := "heditPuts", fn := fun _ => fun
  | [d1, d2, d3] => { results := [.lit (.bool false)], args := [d1, d2, d3] }
  | _ => none }
def HeditPutsWrongFalsely : Prop := heditPutsRow.holds Tryz.pinned (OpenSpec.ofChange heditPutsWrong)

/- THE SECOND FORM. 'bulk': how many values and letters a reading holds, each counted each time it is reached (what is shared counts as often as it is met; a slice's spare places count too). A statement '..UptoSaid' is the law's where the arguments, and the package variables that the reading takes, are together of bulk at most 1048576: NARROWER than '..Said'. Prove '..Said' where nothing that the law and all that it calls make is longer than what came in: it says more and counts as full. Else prove '..UptoSaid'. A law counts once. -/
mutual
def uptoBulk {H : Type} : DataW H → Nat
  | .lit (.string bytes) => bytes.length + 1
  | .lit _ => 1
  | .nil => 1
  | .ptr d => uptoBulk d + 1
  | .slice elems spare => uptoBulkAll elems + uptoBulkAll spare + 1
  | .agg parts => uptoBulkAll parts + 1
  | .iface _ d => uptoBulk d + 1
  | .map entries => uptoBulkEntries entries + 1
  | .held _ => 1
def uptoBulkAll {H : Type} : List (DataW H) → Nat
  | [] => 0
  | d :: r => uptoBulk d + uptoBulkAll r
def uptoBulkEntries {H : Type} : List (Lit × DataW H) → Nat
  | [] => 0
  | x :: r => uptoBulkEntry x + uptoBulkEntries r
def uptoBulkEntry {H : Type} : Lit × DataW H → Nat
  | (.string bytes, d) => bytes.length + uptoBulk d + 1
  | (_, d) => uptoBulk d + 1
 end
def uptoSmall : (H : Type) → List (DataW H) → Bool := fun _ ds => decide (uptoBulkAll ds ≤ 1048576)
def OpenSpec.upto (s : _root_.Go.ChangeSpec) : _root_.Go.OpenSpec := { _root_.Go.OpenSpec.ofChange s with cond := some uptoSmall }

/-- 'pelotonlaw13.KheapAdvances', WHERE WHAT IT READS IS OF BULK AT MOST 1048576: true; the input reads as it did. -/
def kheapAdvancesUptoRow : OpenClaim := { program := "ytmlghnibpjlchaagreat", sum := "d45c0cb8d8f235090d6d90eb3fc86a4f308499a7f55cb856a6ade088b0b7cfd8", func := "peloton/pelotonlaw13.KheapAdvances", spec := "kheapAdvances", inPlace := ["math/bits.Add64"], unfollowed := true, recurses := true, plainKeys := false, apart := false, narrowed := true }
def KheapAdvancesUptoSaid : Prop := kheapAdvancesUptoRow.holds Tryz.pinned (OpenSpec.upto kheapAdvancesSpec)

/-- 'pelotonlaw14.HeditTakes', WHERE WHAT IT READS IS OF BULK AT MOST 1048576: true; the input reads as it did. -/
def heditTakesUptoRow : OpenClaim := { program := "ytmlghnibpjlchaagreat", sum := "d45c0cb8d8f235090d6d90eb3fc86a4f308499a7f55cb856a6ade088b0b7cfd8", func := "peloton/pelotonlaw14.HeditTakes", spec := "heditTakes", inPlace := ["math/bits.Add64"], unfollowed := true, recurses := true, plainKeys := false, apart := false, narrowed := true }
def HeditTakesUptoSaid : Prop := heditTakesUptoRow.holds Tryz.pinned (OpenSpec.upto heditTakesSpec)

/-- 'pelotonlaw13.KheapBuilds', WHERE WHAT IT READS IS OF BULK AT MOST 1048576: true; the input reads as it did. -/
def kheapBuildsUptoRow : OpenClaim := { program := "ytmlghnibpjlchaagreat", sum := "d45c0cb8d8f235090d6d90eb3fc86a4f308499a7f55cb856a6ade088b0b7cfd8", func := "peloton/pelotonlaw13.KheapBuilds", spec := "kheapBuilds", inPlace := ["math/bits.Add64"], unfollowed := true, recurses := true, plainKeys := false, apart := false, narrowed := true }
def KheapBuildsUptoSaid : Prop := kheapBuildsUptoRow.holds Tryz.pinned (OpenSpec.upto kheapBuildsSpec)

/-- 'pelotonlaw14.HeditPuts', WHERE WHAT IT READS IS OF BULK AT MOST 1048576: true; the input reads as it did. -/
def heditPutsUptoRow : OpenClaim := { program := "ytmlghnibpjlchaagreat", sum := "d45c0cb8d8f235090d6d90eb3fc86a4f308499a7f55cb856a6ade088b0b7cfd8", func := "peloton/pelotonlaw14.HeditPuts", spec := "heditPuts", inPlace := ["math/bits.Add64", "slices.overlaps[peloton/api.Point]"], unfollowed := true, recurses := true, plainKeys := false, apart := false, narrowed := true }
def HeditPutsUptoSaid : Prop := heditPutsUptoRow.holds Tryz.pinned (OpenSpec.upto heditPutsSpec)

end Rows
end Go.Proofs.YtmlghnibpjlchaaGreat
