/-
  No cell of these rows narrows 'for every input' (looked for: loops, veiled, ifaces, maps, wideKeys, modest, calm, conditions, laid).
  DERIVED. THE GIVEN ROWS OF THIS SEAT. 6 by the template 'for every input the law returns true; each argument reads behind the call as it read before'; 0 by the template 'total and deterministic' (their statements: YtlnclppkepgdmaaGreatTotals.lean).
  GIVEN WITH THE SEED: the statements are not yours to turn. If you find one false, say at which input.
  Laid BY PROGRAM, IN A SANDBOX (cutbox-rows.mjs): the forced cells as the released guide's own fill.sh prints them over the translation 8e898d4ec8b4dd00… (all of the seat's roots in one cut). By AI agents, Wed Nov 11 2026. No macro, syntax, notation, axiom, sorry.
-/
import Derived.Test.YtlnclppkepgdmaaGreatChecked
import GoSem.Claim
import GoSem.ClaimJoined
import GoSem.ClaimMapViews
import Derived.JoinedTies
import Derived.KernelRfl
namespace Go.Proofs.YtlnclppkepgdmaaGreat
/- THE CELL 'sum', in the pinned program and in every row, IS THE sha256 OF THE DUMP (.gsa) THAT YtlnclppkepgdmaaGreatProg.lean LOADS. Nothing in Lean hashes anything: it is a label: what it is worth is what the hold of that sum in a sandbox is worth. -/
noncomputable def Tryz.pinned : Pinned := { name := "ytlnclppkepgdmaagreat", sum := "8e898d4ec8b4dd00769acafacfc117654934269ff3c6cc590ed681e256da5ec2", checked := Tryz.checked }
namespace Rows
def none {H : Type} : Left H := { results := [], args := [] }

/-- 'pelotonlaw15.KtournMoves': WHATEVER THE INPUT: true; the input reads as it did. -/
def ktournMovesSpec : ChangeSpec := { name := "ktournMoves", fn := fun _ => fun
  | [d1, d2] => { results := [.lit (.bool true)], args := [d1, d2] }
  | _ => none }
def ktournMovesRow : OpenClaim := { program := "ytlnclppkepgdmaagreat", sum := "8e898d4ec8b4dd00769acafacfc117654934269ff3c6cc590ed681e256da5ec2", func := "peloton/pelotonlaw15.KtournMoves", spec := "ktournMoves", inPlace := ["math/bits.Add64"], unfollowed := true, recurses := true, plainKeys := false, apart := false }
def KtournMovesSaid : Prop := ktournMovesRow.holds Tryz.pinned (OpenSpec.ofChange ktournMovesSpec)

/-- ITS FALSE NEIGHBOUR: 'it returns false'. Refute it at one input. -/
def ktournMovesWrong : ChangeSpec := { name := "ktournMoves", fn := fun _ => fun
  | [d1, d2] => { results := [.lit (.bool false)], args := [d1, d2] }
  | _ => none }
def KtournMovesWrongFalsely : Prop := ktournMovesRow.holds Tryz.pinned (OpenSpec.ofChange ktournMovesWrong)

/-- 'pelotonlaw15.KtournBuilds': WHATEVER THE INPUT: true; the input reads as it did. -/
def ktournBuildsSpec : ChangeSpec := { name := "ktournBuilds", fn := fun _ => fun
  | [d1, d2, d3] => { results := [.lit (.bool true)], args := [d1, d2, d3] }
  | _ => none }
def ktournBuildsRow : OpenClaim := { program := "ytlnclppkepgdmaagreat", sum := "8e898d4ec8b4dd00769acafacfc117654934269ff3c6cc590ed681e256da5ec2", func := "peloton/pelotonlaw15.KtournBuilds", spec := "ktournBuilds", inPlace := ["math/bits.Add64"], unfollowed := true, recurses := true, plainKeys := false, apart := false }
def KtournBuildsSaid : Prop := ktournBuildsRow.holds Tryz.pinned (OpenSpec.ofChange ktournBuildsSpec)

/-- ITS FALSE NEIGHBOUR: 'it returns false'. Refute it at one input. -/
def ktournBuildsWrong : ChangeSpec := { name := "ktournBuilds", fn := fun _ => fun
  | [d1, d2, d3] => { results := [.lit (.bool false)], args := [d1, d2, d3] }
  | _ => none }
def KtournBuildsWrongFalsely : Prop := ktournBuildsRow.holds Tryz.pinned (OpenSpec.ofChange ktournBuildsWrong)

/-- 'pelotonlaw15.KtournNames': WHATEVER THE INPUT: true; the input reads as it did. -/
def ktournNamesSpec : ChangeSpec := { name := "ktournNames", fn := fun _ => fun
  | [] => { results := [.lit (.bool true)], args := [] }
  | _ => none }
def ktournNamesRow : OpenClaim := { program := "ytlnclppkepgdmaagreat", sum := "8e898d4ec8b4dd00769acafacfc117654934269ff3c6cc590ed681e256da5ec2", func := "peloton/pelotonlaw15.KtournNames", spec := "ktournNames", inPlace := ["math/bits.Add64"], unfollowed := true, recurses := true, plainKeys := false, apart := false }
def KtournNamesSaid : Prop := ktournNamesRow.holds Tryz.pinned (OpenSpec.ofChange ktournNamesSpec)

/-- ITS FALSE NEIGHBOUR: 'it returns false'. Refute it at one input. -/
def ktournNamesWrong : ChangeSpec := { name := "ktournNames", fn := fun _ => fun
  | [] => { results := [.lit (.bool false)], args := [] }
  | _ => none }
def KtournNamesWrongFalsely : Prop := ktournNamesRow.holds Tryz.pinned (OpenSpec.ofChange ktournNamesWrong)

/-- 'pelotonlaw15.KtournEmpty': WHATEVER THE INPUT: true; the input reads as it did. -/
def ktournEmptySpec : ChangeSpec := { name := "ktournEmpty", fn := fun _ => fun
  | [d1, d2, d3, d4] => { results := [.lit (.bool true)], args := [d1, d2, d3, d4] }
  | _ => none }
def ktournEmptyRow : OpenClaim := { program := "ytlnclppkepgdmaagreat", sum := "8e898d4ec8b4dd00769acafacfc117654934269ff3c6cc590ed681e256da5ec2", func := "peloton/pelotonlaw15.KtournEmpty", spec := "ktournEmpty", inPlace := ["math/bits.Add64"], unfollowed := true, recurses := true, plainKeys := false, apart := false }
def KtournEmptySaid : Prop := ktournEmptyRow.holds Tryz.pinned (OpenSpec.ofChange ktournEmptySpec)

/-- ITS FALSE NEIGHBOUR: 'it returns false'. Refute it at one input. -/
def ktournEmptyWrong : ChangeSpec := { name := "ktournEmpty", fn := fun _ => fun
  | [d1, d2, d3, d4] => { results := [.lit (.bool false)], args := [d1, d2, d3, d4] }
  | _ => none }
def KtournEmptyWrongFalsely : Prop := ktournEmptyRow.holds Tryz.pinned (OpenSpec.ofChange ktournEmptyWrong)

/-- 'pelotonlaw15.KtournLeads': WHATEVER THE INPUT: true; the input reads as it did. -/
def ktournLeadsSpec : ChangeSpec := { name := "ktournLeads", fn := fun _ => fun
  | [d1, d2] => { results := [.lit (.bool true)], args := [d1, d2] }
  | _ => none }
def ktournLeadsRow : OpenClaim := { program := "ytlnclppkepgdmaagreat", sum := "8e898d4ec8b4dd00769acafacfc117654934269ff3c6cc590ed681e256da5ec2", func := "peloton/pelotonlaw15.KtournLeads", spec := "ktournLeads", inPlace := ["math/bits.Add64"], unfollowed := true, recurses := true, plainKeys := false, apart := false }
def KtournLeadsSaid : Prop := ktournLeadsRow.holds Tryz.pinned (OpenSpec.ofChange ktournLeadsSpec)

/-- ITS FALSE NEIGHBOUR: 'it returns false'. Refute it at one input. -/
def ktournLeadsWrong : ChangeSpec := { name := "ktournLeads", fn := fun _ => fun
  | [d1, d2] => { results := [.lit (.bool false)], args := [d1, d2] }
  | _ => none }
def KtournLeadsWrongFalsely : Prop := ktournLeadsRow.holds Tryz.pinned (OpenSpec.ofChange ktournLeadsWrong)

/-- 'pelotonlaw15.KtournEvents': WHATEVER THE INPUT: true; the input reads as it did. -/
def ktournEventsSpec : ChangeSpec := { name := "ktournEvents", fn := fun _ => fun
  | [d1, d2, d3] => { results := [.lit (.bool true)], args := [d1, d2, d3] }
  | _ => none }
def ktournEventsRow : OpenClaim := { program := "ytlnclppkepgdmaagreat", sum := "8e898d4ec8b4dd00769acafacfc117654934269ff3c6cc590ed681e256da5ec2", func := "peloton/pelotonlaw15.KtournEvents", spec := "ktournEvents", inPlace := ["math/bits.Add64"], unfollowed := true, recurses := true, plainKeys := false, apart := false }
def KtournEventsSaid : Prop := ktournEventsRow.holds Tryz.pinned (OpenSpec.ofChange ktournEventsSpec)

/-- ITS FALSE NEIGHBOUR: 'it returns false'. Refute it at one input. -/
def ktournEventsWrong : ChangeSpec := { name := "ktournEvents", fn := fun _ => fun
  | [d1, d2, d3] => { results := [.lit (.bool false)], args := [d1, d2, d3] }
  | _ => none }
def KtournEventsWrongFalsely : Prop := ktournEventsRow.holds Tryz.pinned (OpenSpec.ofChange ktournEventsWrong)

/- THE SECOND FORM. 'bulk': how many values and letters a reading holds, each counted each time it is reached (what is shared counts as often as it is met; a slice's spare places count too). A statement '..UptoSaid' is the law's where the arguments, and the package variables that the reading takes, are together of bulk at most 1048576: NARROWER than '..Said'. Prove '..Said' where nothing that the law and all that it calls make is longer than what came in: it says more and counts as full. Else prove '..UptoSaid'. A law counts once. -/
mutual
def uptoBulk {H : Type} : DataW H → Nat
  | .lit (.string bytes) => bytes.length + 1
  | .lit _ => 1
  | .nil => 1
  | .ptr d => uptoBulk d + 1
  | .slice elems spare => uptoBulkAll elems + uptoBulkAll spare + 1
  | .agg parts => uptoBulkAll parts + 1
  | .iface _ d => uptoBulk d + 1
  | .map entries => uptoBulkEntries entries + 1
  | .held _ => 1
def uptoBulkAll {H : Type} : List (DataW H) → Nat
  | [] => 0
  | d :: r => uptoBulk d + uptoBulkAll r
def uptoBulkEntries {H : Type} : List (Lit × DataW H) → Nat
  | [] => 0
  | x :: r => uptoBulkEntry x + uptoBulkEntries r
def uptoBulkEntry {H : Type} : Lit × DataW H → Nat
  | (.string bytes, d) => bytes.length + uptoBulk d + 1
  | (_, d) => uptoBulk d + 1
 end
def uptoSmall : (H : Type) → List (DataW H) → Bool := fun _ ds => decide (uptoBulkAll ds ≤ 1048576)
def OpenSpec.upto (s : _root_.Go.ChangeSpec) : _root_.Go.OpenSpec := { _root_.Go.OpenSpec.ofChange s with cond := some uptoSmall }

/-- 'pelotonlaw15.KtournMoves', WHERE WHAT IT READS IS OF BULK AT MOST 1048576: true; the input reads as it did. -/
def ktournMovesUptoRow : OpenClaim := { program := "ytlnclppkepgdmaagreat", sum := "8e898d4ec8b4dd00769acafacfc117654934269ff3c6cc590ed681e256da5ec2", func := "peloton/pelotonlaw15.KtournMoves", spec := "ktournMoves", inPlace := ["math/bits.Add64"], unfollowed := true, recurses := true, plainKeys := false, apart := false, narrowed := true }
def KtournMovesUptoSaid : Prop := ktournMovesUptoRow.holds Tryz.pinned (OpenSpec.upto ktournMovesSpec)

/-- 'pelotonlaw15.KtournBuilds', WHERE WHAT IT READS IS OF BULK AT MOST 1048576: true; the input reads as it did. -/
def ktournBuildsUptoRow : OpenClaim := { program := "ytlnclppkepgdmaagreat", sum := "8e898d4ec8b4dd00769acafacfc117654934269ff3c6cc590ed681e256da5ec2", func := "peloton/pelotonlaw15.KtournBuilds", spec := "ktournBuilds", inPlace := ["math/bits.Add64"], unfollowed := true, recurses := true, plainKeys := false, apart := false, narrowed := true }
def KtournBuildsUptoSaid : Prop := ktournBuildsUptoRow.holds Tryz.pinned (OpenSpec.upto ktournBuildsSpec)

/-- 'pelotonlaw15.KtournNames', WHERE WHAT IT READS IS OF BULK AT MOST 1048576: true; the input reads as it did. -/
def ktournNamesUptoRow : OpenClaim := { program := "ytlnclppkepgdmaagreat", sum := "8e898d4ec8b4dd00769acafacfc117654934269ff3c6cc590ed681e256da5ec2", func := "peloton/pelotonlaw15.KtournNames", spec := "ktournNames", inPlace := ["math/bits.Add64"], unfollowed := true, recurses := true, plainKeys := false, apart := false, narrowed := true }
def KtournNamesUptoSaid : Prop := ktournNamesUptoRow.holds Tryz.pinned (OpenSpec.upto ktournNamesSpec)

/-- 'pelotonlaw15.KtournEmpty', WHERE WHAT IT READS IS OF BULK AT MOST 1048576: true; the input reads as it did. -/
def ktournEmptyUptoRow : OpenClaim := { program := "ytlnclppkepgdmaagreat", sum := "8e898d4ec8b4dd00769acafacfc117654934269ff3c6cc590ed681e256da5ec2", func := "peloton/pelotonlaw15.KtournEmpty", spec := "ktournEmpty", inPlace := ["math/bits.Add64"], unfollowed := true, recurses := true, plainKeys := false, apart := false, narrowed := true }
def KtournEmptyUptoSaid : Prop := ktournEmptyUptoRow.holds Tryz.pinned (OpenSpec.upto ktournEmptySpec)

/-- 'pelotonlaw15.KtournLeads', WHERE WHAT IT READS IS OF BULK AT MOST 1048576: true; the input reads as it did. -/
def ktournLeadsUptoRow : OpenClaim := { program := "ytlnclppkepgdmaagreat", sum := "8e898d4ec8b4dd00769acafacfc117654934269ff3c6cc590ed681e256da5ec2", func := "peloton/pelotonlaw15.KtournLeads", spec := "ktournLeads", inPlace := ["math/bits.Add64"], unfollowed := true, recurses := true, plainKeys := false, apart := false, narrowed := true }
def KtournLeadsUptoSaid : Prop := ktournLeadsUptoRow.holds Tryz.pinned (OpenSpec.upto ktournLeadsSpec)

/-- 'pelotonlaw15.KtournEvents', WHERE WHAT IT READS IS OF BULK AT MOST 1048576: true; the input reads as it did. -/
def ktournEventsUptoRow : OpenClaim := { program := "ytlnclppkepgdmaagreat", sum := "8e898d4ec8b4dd00769acafacfc117654934269ff3c6cc590ed681e256da5ec2", func := "peloton/pelotonlaw15.KtournEvents", spec := "ktournEvents", inPlace := ["math/bits.Add64"], unfollowed := true, recurses := true, plainKeys := false, apart := false, narrowed := true }
def KtournEventsUptoSaid : Prop := ktournEventsUptoRow.holds Tryz.pinned (OpenSpec.upto ktournEventsSpec)

end Rows
end Go.Proofs.YtlnclppkepgdmaaGreat
