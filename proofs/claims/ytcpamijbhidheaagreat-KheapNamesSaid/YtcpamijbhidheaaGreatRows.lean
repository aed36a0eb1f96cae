/-
  No cell of these rows narrows 'for every input' (looked for: loops, veiled, ifaces, maps, wideKeys, modest, calm, conditions, laid).
  DERIVED. THE GIVEN ROWS OF THIS SEAT. 7 by the template 'for every input the law returns true; each argument reads behind the call as it read before'; 0 by the template 'total and deterministic' (their statements: YtcpamijbhidheaaGreatTotals.lean).
  GIVEN WITH THE SEED: the statements are not yours to turn. If you find one false, say at which input.
  Laid BY PROGRAM, IN A SANDBOX (cutbox-rows.mjs): the forced cells as the released guide's own fill.sh prints them over the translation 15d128e9dad85fe8… (all of the seat's roots in one cut). By AI agents, Wed Nov 11 2026. No macro, syntax, notation, axiom, sorry.
-/
import Derived.Test.YtcpamijbhidheaaGreatChecked
import GoSem.Claim
import GoSem.ClaimJoined
import GoSem.ClaimMapViews
import Derived.JoinedTies
import Derived.KernelRfl
namespace Go.Proofs.YtcpamijbhidheaaGreat
/- THE CELL 'sum', in the pinned program and in every row, IS THE sha256 OF THE DUMP (.gsa) THAT YtcpamijbhidheaaGreatProg.lean LOADS. Nothing in Lean hashes anything: it is a label: what it is worth is what the hold of that sum in a sandbox is worth. -/
noncomputable def Tryz.pinned : Pinned := { name := "ytcpamijbhidheaagreat", sum := "15d128e9dad85fe8b0872b8d1d2672415441530689d2f531cb63eaeafe001f0f", checked := Tryz.checked }
namespace Rows
def none {H : Type} : Left H := { results := [], args := [] }

/-- 'pelotonlaw13.KheapRenews': WHATEVER THE INPUT: true; the input reads as it did. -/
def kheapRenewsSpec : ChangeSpec := { name := "kheapRenews", fn := fun _ => fun
  | [d1, d2, d3] => { results := [.lit (.bool true)], args := [d1, d2, d3] }
  | _ => none }
def kheapRenewsRow : OpenClaim := { program := "ytcpamijbhidheaagreat", sum := "15d128e9dad85fe8b0872b8d1d2672415441530689d2f531cb63eaeafe001f0f", func := "peloton/pelotonlaw13.KheapRenews", spec := "kheapRenews", inPlace := ["math/bits.Add64"], unfollowed := true, recurses := true, plainKeys := false, apart := false }
def KheapRenewsSaid : Prop := kheapRenewsRow.holds Tryz.pinned (OpenSpec.ofChange kheapRenewsSpec)

/-- ITS FALSE NEIGHBOUR: 'it returns false'. Refute it at one input. -/
def kheapRenewsWrong : ChangeSpec := { name := "kheapRenews", fn := fun _ => fun
  | [d1, d2, d3] => { results := [.lit (.bool false)], args := [d1, d2, d3] }
  | _ => none }
def KheapRenewsWrongFalsely : Prop := kheapRenewsRow.holds Tryz.pinned (OpenSpec.ofChange kheapRenewsWrong)

/-- 'pelotonlaw13.KheapAdvances': WHATEVER THE INPUT: true; the input reads as it did. -/
def kheapAdvancesSpec : ChangeSpec := { name := "kheapAdvances", fn := fun _ => fun
  | [d1, d2] => { results := [.lit (.bool true)], args := [d1, d2] }
  | _ => none }
def kheapAdvancesRow : OpenClaim := { program := "ytcpamijbhidheaagreat", sum := "15d128e9dad85fe8b0872b8d1d2672415441530689d2f531cb63eaeafe001f0f", func := "peloton/pelotonlaw13.KheapAdvances", spec := "kheapAdvances", inPlace := ["math/bits.Add64"], unfollowed := true, recurses := true, plainKeys := false, apart := false }
def KheapAdvancesSaid : Prop := kheapAdvancesRow.holds Tryz.pinned (OpenSpec.ofChange kheapAdvancesSpec)

/-- ITS FALSE NEIGHBOUR: 'it returns false'. Refute it at one input. -/
def kheapAdvancesWrong : ChangeSpec := { name := "kheapAdvances", fn := fun _ => fun
  | [d1, d2] => { results := [.lit (.bool false)], args := [d1, d2] }
  | _ => none }
def KheapAdvancesWrongFalsely : Prop := kheapAdvancesRow.holds Tryz.pinned (OpenSpec.ofChange kheapAdvancesWrong)

/-- 'pelotonlaw13.KheapBuilds': WHATEVER THE INPUT: true; the input reads as it did. -/
def kheapBuildsSpec : ChangeSpec := { name := "kheapBuilds", fn := fun _ => fun
  | [d1, d2, d3] => { results := [.lit (.bool true)], args := [d1, d2, d3] }
  | _ => none }
def kheapBuildsRow : OpenClaim := { program := "ytcpamijbhidheaagreat", sum := "15d128e9dad85fe8b0872b8d1d2672415441530689d2f531cb63eaeafe001f0f", func := "peloton/pelotonlaw13.KheapBuilds", spec := "kheapBuilds", inPlace := ["math/bits.Add64"], unfollowed := true, recurses := true, plainKeys := false, apart := false }
def KheapBuildsSaid : Prop := kheapBuildsRow.holds Tryz.pinned (OpenSpec.ofChange kheapBuildsSpec)

/-- ITS FALSE NEIGHBOUR: 'it returns false'. Refute it at one input. -/
def kheapBuildsWrong : ChangeSpec := { name := "kheapBuilds", fn := fun _ => fun
  | [d1, d2, d3] => { results := [.lit (.bool false)], args := [d1, d2, d3] }
  | _ => none }
def KheapBuildsWrongFalsely : Prop := kheapBuildsRow.holds Tryz.pinned (OpenSpec.ofChange kheapBuildsWrong)

/-- 'pelotonlaw13.KheapParts': WHATEVER THE INPUT: true; the input reads as it did. -/
def kheapPartsSpec : ChangeSpec := { name := "kheapParts", fn := fun _ => fun
  | [d1, d2, d3] => { results := [.lit (.bool true)], args := [d1, d2, d3] }
  | _ => none }
def kheapPartsRow : OpenClaim := { program := "ytcpamijbhidheaagreat", sum := "15d128e9dad85fe8b0872b8d1d2672415441530689d2f531cb63eaeafe001f0f", func := "peloton/pelotonlaw13.KheapParts", spec := "kheapParts", inPlace := ["math/bits.Add64"], unfollowed := true, recurses := true, plainKeys := false, apart := false }
def KheapPartsSaid : Prop := kheapPartsRow.holds Tryz.pinned (OpenSpec.ofChange kheapPartsSpec)

/-- ITS FALSE NEIGHBOUR: 'it returns false'. Refute it at one input. -/
def kheapPartsWrong : ChangeSpec := { name := "kheapParts", fn := fun _ => fun
  | [d1, d2, d3] => { results := [.lit (.bool false)], args := [d1, d2, d3] }
  | _ => none }
def KheapPartsWrongFalsely : Prop := kheapPartsRow.holds Tryz.pinned (OpenSpec.ofChange kheapPartsWrong)

/-- 'pelotonlaw13.KheapNames': WHATEVER THE INPUT: true; the input reads as it did. -/
def kheapNamesSpec : ChangeSpec := { name := "kheapNames", fn := fun _ => fun
  | [] => { results := [.lit (.bool true)], args := [] }
  | _ => none }
def kheapNamesRow : OpenClaim := { program := "ytcpamijbhidheaagreat", sum := "15d128e9dad85fe8b0872b8d1d2672415441530689d2f531cb63eaeafe001f0f", func := "peloton/pelotonlaw13.KheapNames", spec := "kheapNames", inPlace := ["math/bits.Add64"], unfollowed := true, recurses := true, plainKeys := false, apart := false }
def KheapNamesSaid : Prop := kheapNamesRow.holds Tryz.pinned (OpenSpec.ofChange kheapNamesSpec)

/-- ITS FALSE NEIGHBOUR: 'it returns false'. Refute it at one input. -/
def kheapNamesWrong : ChangeSpec := { name := "kheapNames", fn := fun _ => fun
  | [] => { results := [.lit (.bool false)], args := [] }
  | _ => none }
def KheapNamesWrongFalsely : Prop := kheapNamesRow.holds Tryz.pinned (OpenSpec.ofChange kheapNamesWrong)

/-- 'pelotonlaw13.KheapLeads': WHATEVER THE INPUT: true; the input reads as it did. -/
def kheapLeadsSpec : ChangeSpec := { name := "kheapLeads", fn := fun _ => fun
  | [d1, d2, d3] => { results := [.lit (.bool true)], args := [d1, d2, d3] }
  | _ => none }
def kheapLeadsRow : OpenClaim := { program := "ytcpamijbhidheaagreat", sum := "15d128e9dad85fe8b0872b8d1d2672415441530689d2f531cb63eaeafe001f0f", func := "peloton/pelotonlaw13.KheapLeads", spec := "kheapLeads", inPlace := ["math/bits.Add64"], unfollowed := true, recurses := true, plainKeys := false, apart := false }
def KheapLeadsSaid : Prop := kheapLeadsRow.holds Tryz.pinned (OpenSpec.ofChange kheapLeadsSpec)

/-- ITS FALSE NEIGHBOUR: 'it returns false'. Refute it at one input. -/
def kheapLeadsWrong : ChangeSpec := { name := "kheapLeads", fn := fun _ => fun
  | [d1, d2, d3] => { results := [.lit (.bool false)], args := [d1, d2, d3] }
  | _ => none }
def KheapLeadsWrongFalsely : Prop := kheapLeadsRow.holds Tryz.pinned (OpenSpec.ofChange kheapLeadsWrong)

/-- 'pelotonlaw13.KheapEvents': WHATEVER THE INPUT: true; the input reads as it did. -/
def kheapEventsSpec : ChangeSpec := { name := "kheapEvents", fn := fun _ => fun
  | [d1, d2] => { results := [.lit (.bool true)], args := [d1, d2] }
  | _ => none }
def kheapEventsRow : OpenClaim := { program := "ytcpamijbhidheaagreat", sum := "15d128e9dad85fe8b0872b8d1d2672415441530689d2f531cb63eaeafe001f0f", func := "peloton/pelotonlaw13.KheapEvents", spec := "kheapEvents", inPlace := ["math/bits.Add64"], unfollowed := true, recurses := true, plainKeys := false, apart := false }
def KheapEventsSaid : Prop := kheapEventsRow.holds Tryz.pinned (OpenSpec.ofChange kheapEventsSpec)

/-- ITS FALSE NEIGHBOUR: 'it returns false'. Refute it at one input. -/
def kheapEventsWrong : ChangeSpec := { name := "kheapEvents", fn := fun _ => fun
  | [d1, d2] => { results := [.lit (.bool false)], args := [d1, d2] }
  | _ => none }
def KheapEventsWrongFalsely : Prop := kheapEventsRow.holds Tryz.pinned (OpenSpec.ofChange kheapEventsWrong)

/- THE SECOND FORM. 'bulk': how many values and letters a reading holds, each counted each time it is reached (what is shared counts as often as it is met; a slice's spare places count too). A statement '..UptoSaid' is the law's where the arguments, and the package variables that the reading takes, are together of bulk at most 1048576: NARROWER than '..Said'. Prove '..Said' where nothing that the law and all that it calls make is longer than what came in: it says more and counts as full. Else prove '..UptoSaid'. A law counts once. -/
mutual
def uptoBulk {H : Type} : DataW H → Nat
  | .lit (.string bytes) => bytes.length + 1
  | .lit _ => 1
  | .nil => 1
  | .ptr d => uptoBulk d + 1
  | .slice elems spare => uptoBulkAll elems + uptoBulkAll spare + 1
  | .agg parts => uptoBulkAll parts + 1
  | .iface _ d => uptoBulk d + 1
  | .map entries => uptoBulkEntries entries + 1
  | .held _ => 1
def uptoBulkAll {H : Type} : List (DataW H) → Nat
  | [] => 0
  | d :: r => uptoBulk d + uptoBulkAll r
def uptoBulkEntries {H : Type} : List (Lit × DataW H) → Nat
  | [] => 0
  | x :: r => uptoBulkEntry x + uptoBulkEntries r
def uptoBulkEntry {H : Type} : Lit × DataW H → Nat
  | (.string bytes, d) => bytes.length + uptoBulk d + 1
  | (_, d) => uptoBulk d + 1
 end
def uptoSmall : (H : Type) → List (DataW H) → Bool := fun _ ds => decide (uptoBulkAll ds ≤ 1048576)
def OpenSpec.upto (s : _root_.Go.ChangeSpec) : _root_.Go.OpenSpec := { _root_.Go.OpenSpec.ofChange s with cond := some uptoSmall }

/-- 'pelotonlaw13.KheapRenews', WHERE WHAT IT READS IS OF BULK AT MOST 1048576: true; the input reads as it did. -/
def kheapRenewsUptoRow : OpenClaim := { program := "ytcpamijbhidheaagreat", sum := "15d128e9dad85fe8b0872b8d1d2672415441530689d2f531cb63eaeafe001f0f", func := "peloton/pelotonlaw13.KheapRenews", spec := "kheapRenews", inPlace := ["math/bits.Add64"], unfollowed := true, recurses := true, plainKeys := false, apart := false, narrowed := true }
def KheapRenewsUptoSaid : Prop := kheapRenewsUptoRow.holds Tryz.pinned (OpenSpec.upto kheapRenewsSpec)

/-- 'pelotonlaw13.KheapAdvances', WHERE WHAT IT READS IS OF BULK AT MOST 1048576: true; the input reads as it did. -/
def kheapAdvancesUptoRow : OpenClaim := { program := "ytcpamijbhidheaagreat", sum := "15d128e9dad85fe8b0872b8d1d2672415441530689d2f531cb63eaeafe001f0f", func := "peloton/pelotonlaw13.KheapAdvances", spec := "kheapAdvances", inPlace := ["math/bits.Add64"], unfollowed := true, recurses := true, plainKeys := false, apart := false, narrowed := true }
def KheapAdvancesUptoSaid : Prop := kheapAdvancesUptoRow.holds Tryz.pinned (OpenSpec.upto kheapAdvancesSpec)

/-- 'pelotonlaw13.KheapBuilds', WHERE WHAT IT READS IS OF BULK AT MOST 1048576: true; the input reads as it did. -/
def kheapBuildsUptoRow : OpenClaim := { program := "ytcpamijbhidheaagreat", sum := "15d128e9dad85fe8b0872b8d1d2672415441530689d2f531cb63eaeafe001f0f", func := "peloton/pelotonlaw13.KheapBuilds", spec := "kheapBuilds", inPlace := ["math/bits.Add64"], unfollowed := true, recurses := true, plainKeys := false, apart := false, narrowed := true }
def KheapBuildsUptoSaid : Prop := kheapBuildsUptoRow.holds Tryz.pinned (OpenSpec.upto kheapBuildsSpec)

/-- 'pelotonlaw13.KheapParts', WHERE WHAT IT READS IS OF BULK AT MOST 1048576: true; the input reads as it did. -/
def kheapPartsUptoRow : OpenClaim := { program := "ytcpamijbhidheaagreat", sum := "15d128e9dad85fe8b0872b8d1d2672415441530689d2f531cb63eaeafe001f0f", func := "peloton/pelotonlaw13.KheapParts", spec := "kheapParts", inPlace := ["math/bits.Add64"], unfollowed := true, recurses := true, plainKeys := false, apart := false, narrowed := true }
def KheapPartsUptoSaid : Prop := kheapPartsUptoRow.holds Tryz.pinned (OpenSpec.upto kheapPartsSpec)

/-- 'pelotonlaw13.KheapNames', WHERE WHAT IT READS IS OF BULK AT MOST 1048576: true; the input reads as it did. -/
def kheapNamesUptoRow : OpenClaim := { program := "ytcpamijbhidheaagreat", sum := "15d128e9dad85fe8b0872b8d1d2672415441530689d2f531cb63eaeafe001f0f", func := "peloton/pelotonlaw13.KheapNames", spec := "kheapNames", inPlace := ["math/bits.Add64"], unfollowed := true, recurses := true, plainKeys := false, apart := false, narrowed := true }
def KheapNamesUptoSaid : Prop := kheapNamesUptoRow.holds Tryz.pinned (OpenSpec.upto kheapNamesSpec)

/-- 'pelotonlaw13.KheapLeads', WHERE WHAT IT READS IS OF BULK AT MOST 1048576: true; the input reads as it did. -/
def kheapLeadsUptoRow : OpenClaim := { program := "ytcpamijbhidheaagreat", sum := "15d128e9dad85fe8b0872b8d1d2672415441530689d2f531cb63eaeafe001f0f", func := "peloton/pelotonlaw13.KheapLeads", spec := "kheapLeads", inPlace := ["math/bits.Add64"], unfollowed := true, recurses := true, plainKeys := false, apart := false, narrowed := true }
def KheapLeadsUptoSaid : Prop := kheapLeadsUptoRow.holds Tryz.pinned (OpenSpec.upto kheapLeadsSpec)

/-- 'pelotonlaw13.KheapEvents', WHERE WHAT IT READS IS OF BULK AT MOST 1048576: true; the input reads as it did. -/
def kheapEventsUptoRow : OpenClaim := { program := "ytcpamijbhidheaagreat", sum := "15d128e9dad85fe8b0872b8d1d2672415441530689d2f531cb63eaeafe001f0f", func := "peloton/pelotonlaw13.KheapEvents", spec := "kheapEvents", inPlace := ["math/bits.Add64"], unfollowed := true, recurses := true, plainKeys := false, apart := false, narrowed := true }
def KheapEventsUptoSaid : Prop := kheapEventsUptoRow.holds Tryz.pinned (OpenSpec.upto kheapEventsSpec)

end Rows
end Go.Proofs.YtcpamijbhidheaaGreat
