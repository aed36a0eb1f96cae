/-
  No cell of these rows narrows 'for every input' (looked for: loops, veiled, ifaces, maps, wideKeys, modest, calm, conditions, laid).
  DERIVED. THE GIVEN ROWS OF THIS SEAT. 7 by the template 'for every input the law returns true; each argument reads behind the call as it read before'; 0 by the template 'total and deterministic' (their statements: YthljmpcakagceaaGreatTotals.lean).
  GIVEN WITH THE SEED: the statements are not yours to turn. If you find one false, say at which input.
  Laid BY PROGRAM, IN A SANDBOX (cutbox-rows.mjs): the forced cells as the released guide's own fill.sh prints them over the translation 720cd97230a44fe1… (all of the seat's roots in one cut). By AI agents, Wed Nov 11 2026. No macro, syntax, notation, axiom, sorry.
-/
import Derived.Test.YthljmpcakagceaaGreatChecked
import GoSem.Claim
import GoSem.ClaimJoined
import GoSem.ClaimMapViews
import Derived.JoinedTies
import Derived.KernelRfl
namespace Go.Proofs.YthljmpcakagceaaGreat
/- THE CELL 'sum', in the pinned program and in every row, IS THE sha256 OF THE DUMP (.gsa) THAT YthljmpcakagceaaGreatProg.lean LOADS. Nothing in Lean hashes anything: it is a label: what it is worth is what the hold of that sum in a sandbox is worth. -/
noncomputable def Tryz.pinned : Pinned := { name := "ythljmpcakagceaagreat", sum := "720cd97230a44fe132d8cf80503af28995a8eb2535812bcd7e03dfe946182da0", checked := Tryz.checked }
namespace Rows
def none {H : Type} : Left H := { results := [], args := [] }

/-- 'pelotonlaw17.HeaterSides': WHATEVER THE INPUT: true; the input reads as it did. -/
def heaterSidesSpec : ChangeSpec := { name := "heaterSides", fn := fun _ => fun
  | [d1, d2] => { results := [.lit (.bool true)], args := [d1, d2] }
  | _ => none }
def heaterSidesRow : OpenClaim := { program := "ythljmpcakagceaagreat", sum := "720cd97230a44fe132d8cf80503af28995a8eb2535812bcd7e03dfe946182da0", func := "peloton/pelotonlaw17.HeaterSides", spec := "heaterSides", inPlace := ["math/bits.Add64"], unfollowed := true, recurses := true, plainKeys := false, apart := false }
def HeaterSidesSaid : Prop := heaterSidesRow.holds Tryz.pinned (OpenSpec.ofChange heaterSidesSpec)

/-- ITS FALSE NEIGHBOUR: 'it returns false'. Refute it at one input. -/
def heaterSidesWrong : ChangeSpec := { name := "heaterSides", fn := fun _ => fun
  | [d1, d2] => { results := [.lit (.bool false)], args := [d1, d2] }
  | _ => none }
def HeaterSidesWrongFalsely : Prop := heaterSidesRow.holds Tryz.pinned (OpenSpec.ofChange heaterSidesWrong)

/-- 'pelotonlaw17.HeaterLeads': WHATEVER THE INPUT: true; the input reads as it did. -/
def heaterLeadsSpec : ChangeSpec := { name := "heaterLeads", fn := fun _ => fun
  | [d1, d2] => { results := [.lit (.bool true)], args := [d1, d2] }
  | _ => none }
def heaterLeadsRow : OpenClaim := { program := "ythljmpcakagceaagreat", sum := "720cd97230a44fe132d8cf80503af28995a8eb2535812bcd7e03dfe946182da0", func := "peloton/pelotonlaw17.HeaterLeads", spec := "heaterLeads", inPlace := ["math/bits.Add64"], unfollowed := true, recurses := true, plainKeys := false, apart := false }
def HeaterLeadsSaid : Prop := heaterLeadsRow.holds Tryz.pinned (OpenSpec.ofChange heaterLeadsSpec)

/-- ITS FALSE NEIGHBOUR: 'it returns false'. Refute it at one input. -/
def heaterLeadsWrong : ChangeSpec := { name := "heaterLeads", fn := fun _ => fun
  | [d1, d2] => { results := [.lit (.bool false)], args := [d1, d2] }
  | _ => none }
def HeaterLeadsWrongFalsely : Prop := heaterLeadsRow.holds Tryz.pinned (OpenSpec.ofChange heaterLeadsWrong)

/-- 'pelotonlaw17.HeaterEvents': WHATEVER THE INPUT: true; the input reads as it did. -/
def heaterEventsSpec : ChangeSpec := { name := "heaterEvents", fn := fun _ => fun
  | [d1, d2, d3] => { results := [.lit (.bool true)], args := [d1, d2, d3] }
  | _ => none }
def heaterEventsRow : OpenClaim := { program := "ythljmpcakagceaagreat", sum := "720cd97230a44fe132d8cf80503af28995a8eb2535812bcd7e03dfe946182da0", func := "peloton/pelotonlaw17.HeaterEvents", spec := "heaterEvents", inPlace := ["math/bits.Add64"], unfollowed := true, recurses := true, plainKeys := false, apart := false }
def HeaterEventsSaid : Prop := heaterEventsRow.holds Tryz.pinned (OpenSpec.ofChange heaterEventsSpec)

/-- ITS FALSE NEIGHBOUR: 'it returns false'. Refute it at one input. -/
def heaterEventsWrong : ChangeSpec := { name := "heaterEvents", fn := fun _ => fun
  | [d1, d2, d3] => { results := [.lit (.bool false)], args := [d1, d2, d3] }
  | _ => none }
def HeaterEventsWrongFalsely : Prop := heaterEventsRow.holds Tryz.pinned (OpenSpec.ofChange heaterEventsWrong)

/-- 'pelotonlaw18.EeditPuts': WHATEVER THE INPUT: true; the input reads as it did. -/
def eeditPutsSpec : ChangeSpec := { name := "eeditPuts", fn := fun _ => fun
  | [d1, d2, d3] => { results := [.lit (.bool true)], args := [d1, d2, d3] }
  | _ => none }
def eeditPutsRow : OpenClaim := { program := "ythljmpcakagceaagreat", sum := "720cd97230a44fe132d8cf80503af28995a8eb2535812bcd7e03dfe946182da0", func := "peloton/pelotonlaw18.EeditPuts", spec := "eeditPuts", inPlace := ["slices.overlaps[peloton/api.Point]", "math/bits.Add64"], unfollowed := true, recurses := true, plainKeys := false, apart := false }
def EeditPutsSaid : Prop := eeditPutsRow.holds Tryz.pinned (OpenSpec.ofChange eeditPutsSpec)

/-- ITS FALSE NEIGHBOUR: 'it returns false'. Refute it at one input. -/
def eeditPutsWrong : ChangeSpec := { name := "eeditPuts", fn := fun _ => fun
  | [d1, d2, d3] => { results := [.lit (.bool false)], args := [d1, d2, d3] }
  | _ => none }
def EeditPutsWrongFalsely : Prop := eeditPutsRow.holds Tryz.pinned (OpenSpec.ofChange eeditPutsWrong)

/-- 'pelotonlaw18.EeditTwo': WHATEVER THE INPUT: true; the input reads as it did. -/
def eeditTwoSpec : ChangeSpec := { name := "eeditTwo", fn := fun _ => fun
  | [d1, d2, d3, d4] => { results := [.lit (.bool true)], args := [d1, d2, d3, d4] }
  | _ => none }
def eeditTwoRow : OpenClaim := { program := "ythljmpcakagceaagreat", sum := "720cd97230a44fe132d8cf80503af28995a8eb2535812bcd7e03dfe946182da0", func := "peloton/pelotonlaw18.EeditTwo", spec := "eeditTwo", inPlace := ["slices.overlaps[peloton/api.Point]", "math/bits.Add64"], unfollowed := true, recurses := true, plainKeys := false, apart := false }
def EeditTwoSaid : Prop := eeditTwoRow.holds Tryz.pinned (OpenSpec.ofChange eeditTwoSpec)

/-- ITS FALSE NEIGHBOUR: 'it returns false'. Refute it at one input. -/
def eeditTwoWrong : ChangeSpec := { name := "eeditTwo", fn := fun _ => fun
  | [d1, d2, d3, d4] => { results := [.lit (.bool false)], args := [d1, d2, d3, d4] }
  | _ => none }
def EeditTwoWrongFalsely : Prop := eeditTwoRow.holds Tryz.pinned (OpenSpec.ofChange eeditTwoWrong)

/-- 'pelotonlaw18.EeditBack': WHATEVER THE INPUT: true; the input reads as it did. -/
def eeditBackSpec : ChangeSpec := { name := "eeditBack", fn := fun _ => fun
  | [d1, d2, d3] => { results := [.lit (.bool true)], args := [d1, d2, d3] }
  | _ => none }
def eeditBackRow : OpenClaim := { program := "ythljmpcakagceaagreat", sum := "720cd97230a44fe132d8cf80503af28995a8eb2535812bcd7e03dfe946182da0", func := "peloton/pelotonlaw18.EeditBack", spec := "eeditBack", inPlace := ["slices.overlaps[peloton/api.Point]", "math/bits.Add64"], unfollowed := true, recurses := true, plainKeys := false, apart := false }
def EeditBackSaid : Prop := eeditBackRow.holds Tryz.pinned (OpenSpec.ofChange eeditBackSpec)

/-- ITS FALSE NEIGHBOUR: 'it returns false'. Refute it at one input. -/
def eeditBackWrong : ChangeSpec := { name := "eeditBack", fn := fun _ => fun
  | [d1, d2, d3] => { results := [.lit (.bool false)], args := [d1, d2, d3] }
  | _ => none }
def EeditBackWrongFalsely : Prop := eeditBackRow.holds Tryz.pinned (OpenSpec.ofChange eeditBackWrong)

/-- 'pelotonlaw18.EeditAnew': WHATEVER THE INPUT: true; the input reads as it did. -/
def eeditAnewSpec : ChangeSpec := { name := "eeditAnew", fn := fun _ => fun
  | [d1, d2, d3, d4] => { results := [.lit (.bool true)], args := [d1, d2, d3, d4] }
  | _ => none }
def eeditAnewRow : OpenClaim := { program := "ythljmpcakagceaagreat", sum := "720cd97230a44fe132d8cf80503af28995a8eb2535812bcd7e03dfe946182da0", func := "peloton/pelotonlaw18.EeditAnew", spec := "eeditAnew", inPlace := ["slices.overlaps[peloton/api.Point]", "math/bits.Add64"], unfollowed := true, recurses := true, plainKeys := false, apart := false }
def EeditAnewSaid : Prop := eeditAnewRow.holds Tryz.pinned (OpenSpec.ofChange eeditAnewSpec)

/-- ITS FALSE NEIGHBOUR: 'it returns false'. Refute it at one input. -/
def eeditAnewWrong : ChangeSpec := { name := "eeditAnew", fn := fun _ => fun
  | [d1, d2, d3, d4] => { results := [.lit (.bool false)], args := [d1, d2, d3, d4] }
  | _ => none }
def EeditAnewWrongFalsely : Prop := eeditAnewRow.holds Tryz.pinned (OpenSpec.ofChange eeditAnewWrong)

/- THE SECOND FORM. 'bulk': how many values and letters a reading holds, each counted each time it is reached (what is shared counts as often as it is met; a slice's spare places count too). A statement '..UptoSaid' is the law's where the arguments, and the package variables that the reading takes, are together of bulk at most 1048576: NARROWER than '..Said'. Prove '..Said' where nothing that the law and all that it calls make is longer than what came in: it says more and counts as full. Else prove '..UptoSaid'. A law counts once. -/
mutual
def uptoBulk {H : Type} : DataW H → Nat
  | .lit (.string bytes) => bytes.length + 1
  | .lit _ => 1
  | .nil => 1
  | .ptr d => uptoBulk d + 1
  | .slice elems spare => uptoBulkAll elems + uptoBulkAll spare + 1
  | .agg parts => uptoBulkAll parts + 1
  | .iface _ d => uptoBulk d + 1
  | .map entries => uptoBulkEntries entries + 1
  | .held _ => 1
def uptoBulkAll {H : Type} : List (DataW H) → Nat
  | [] => 0
  | d :: r => uptoBulk d + uptoBulkAll r
def uptoBulkEntries {H : Type} : List (Lit × DataW H) → Nat
  | [] => 0
  | x :: r => uptoBulkEntry x + uptoBulkEntries r
def uptoBulkEntry {H : Type} : Lit × DataW H → Nat
  | (.string bytes, d) => bytes.length + uptoBulk d + 1
  | (_, d) => uptoBulk d + 1
 end
def uptoSmall : (H : Type) → List (DataW H) → Bool := fun _ ds => decide (uptoBulkAll ds ≤ 1048576)
def OpenSpec.upto (s : _root_.Go.ChangeSpec) : _root_.Go.OpenSpec := { _root_.Go.OpenSpec.ofChange s with cond := some uptoSmall }

/-- 'pelotonlaw17.HeaterSides', WHERE WHAT IT READS IS OF BULK AT MOST 1048576: true; the input reads as it did. -/
def heaterSidesUptoRow : OpenClaim := { program := "ythljmpcakagceaagreat", sum := "720cd97230a44fe132d8cf80503af28995a8eb2535812bcd7e03dfe946182da0", func := "peloton/pelotonlaw17.HeaterSides", spec := "heaterSides", inPlace := ["math/bits.Add64"], unfollowed := true, recurses := true, plainKeys := false, apart := false, narrowed := true }
def HeaterSidesUptoSaid : Prop := heaterSidesUptoRow.holds Tryz.pinned (OpenSpec.upto heaterSidesSpec)

/-- 'pelotonlaw17.HeaterLeads', WHERE WHAT IT READS IS OF BULK AT MOST 1048576: true; the input reads as it did. -/
def heaterLeadsUptoRow : OpenClaim := { program := "ythljmpcakagceaagreat", sum := "720cd97230a44fe132d8cf80503af28995a8eb2535812bcd7e03dfe946182da0", func := "peloton/pelotonlaw17.HeaterLeads", spec := "heaterLeads", inPlace := ["math/bits.Add64"], unfollowed := true, recurses := true, plainKeys := false, apart := false, narrowed := true }
def HeaterLeadsUptoSaid : Prop := heaterLeadsUptoRow.holds Tryz.pinned (OpenSpec.upto heaterLeadsSpec)

/-- 'pelotonlaw17.HeaterEvents', WHERE WHAT IT READS IS OF BULK AT MOST 1048576: true; the input reads as it did. -/
def heaterEventsUptoRow : OpenClaim := { program := "ythljmpcakagceaagreat", sum := "720cd97230a44fe132d8cf80503af28995a8eb2535812bcd7e03dfe946182da0", func := "peloton/pelotonlaw17.HeaterEvents", spec := "heaterEvents", inPlace := ["math/bits.Add64"], unfollowed := true, recurses := true, plainKeys := false, apart := false, narrowed := true }
def HeaterEventsUptoSaid : Prop := heaterEventsUptoRow.holds Tryz.pinned (OpenSpec.upto heaterEventsSpec)

/-- 'pelotonlaw18.EeditPuts', WHERE WHAT IT READS IS OF BULK AT MOST 1048576: true; the input reads as it did. -/
def eeditPutsUptoRow : OpenClaim := { program := "ythljmpcakagceaagreat", sum := "720cd97230a44fe132d8cf80503af28995a8eb2535812bcd7e03dfe946182da0", func := "peloton/pelotonlaw18.EeditPuts", spec := "eeditPuts", inPlace := ["slices.overlaps[peloton/api.Point]", "math/bits.Add64"], unfollowed := true, recurses := true, plainKeys := false, apart := false, narrowed := true }
def EeditPutsUptoSaid : Prop := eeditPutsUptoRow.holds Tryz.pinned (OpenSpec.upto eeditPutsSpec)

/-- 'pelotonlaw18.EeditTwo', WHERE WHAT IT READS IS OF BULK AT MOST 1048576: true; the input reads as it did. -/
def eeditTwoUptoRow : OpenClaim := { program := "ythljmpcakagceaagreat", sum := "720cd97230a44fe132d8cf80503af28995a8eb2535812bcd7e03dfe946182da0", func := "peloton/pelotonlaw18.EeditTwo", spec := "eeditTwo", inPlace := ["slices.overlaps[peloton/api.Point]", "math/bits.Add64"], unfollowed := true, recurses := true, plainKeys := false, apart := false, narrowed := true }
def EeditTwoUptoSaid : Prop := eeditTwoUptoRow.holds Tryz.pinned (OpenSpec.upto eeditTwoSpec)

/-- 'pelotonlaw18.EeditBack', WHERE WHAT IT READS IS OF BULK AT MOST 1048576: true; the input reads as it did. -/
def eeditBackUptoRow : OpenClaim := { program := "ythljmpcakagceaagreat", sum := "720cd97230a44fe132d8cf80503af28995a8eb2535812bcd7e03dfe946182da0", func := "peloton/pelotonlaw18.EeditBack", spec := "eeditBack", inPlace := ["slices.overlaps[peloton/api.Point]", "math/bits.Add64"], unfollowed := true, recurses := true, plainKeys := false, apart := false, narrowed := true }
def EeditBackUptoSaid : Prop := eeditBackUptoRow.holds Tryz.pinned (OpenSpec.upto eeditBackSpec)

/-- 'pelotonlaw18.EeditAnew', WHERE WHAT IT READS IS OF BULK AT MOST 1048576: true; the input reads as it did. -/
def eeditAnewUptoRow : OpenClaim := { program := "ythljmpcakagceaagreat", sum := "720cd97230a44fe132d8cf80503af28995a8eb2535812bcd7e03dfe946182da0", func := "peloton/pelotonlaw18.EeditAnew", spec := "eeditAnew", inPlace := ["slices.overlaps[peloton/api.Point]", "math/bits.Add64"], unfollowed := true, recurses := true, plainKeys := false, apart := false, narrowed := true }
def EeditAnewUptoSaid : Prop := eeditAnewUptoRow.holds Tryz.pinned (OpenSpec.upto eeditAnewSpec)

end Rows
end Go.Proofs.YthljmpcakagceaaGreat
