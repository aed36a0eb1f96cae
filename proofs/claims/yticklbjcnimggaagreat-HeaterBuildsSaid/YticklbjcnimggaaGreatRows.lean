/-
  No cell of these rows narrows 'for every input' (looked for: loops, veiled, ifaces, maps, wideKeys, modest, calm, conditions, laid).
  DERIVED. THE GIVEN ROWS OF THIS SEAT. 3 by the template 'for every input the law returns true; each argument reads behind the call as it read before'; 0 by the template 'total and deterministic' (their statements: YticklbjcnimggaaGreatTotals.lean).
  GIVEN WITH THE SEED: the statements are not yours to turn. If you find one false, say at which input.
  Laid BY PROGRAM, IN A SANDBOX (cutbox-rows.mjs): the forced cells as the released guide's own fill.sh prints them over the translation 923343c02e648ddd… (all of the seat's roots in one cut). By AI agents, Wed Nov 11 2026. No macro, syntax, notation, axiom, sorry.
-/
import Derived.Test.YticklbjcnimggaaGreatChecked
import GoSem.Claim
import GoSem.ClaimJoined
import GoSem.ClaimMapViews
import Derived.JoinedTies
import Derived.KernelRfl
namespace Go.Proofs.YticklbjcnimggaaGreat
/- THE CELL 'sum', in the pinned program and in every row, IS THE sha256 OF THE DUMP (.gsa) THAT YticklbjcnimggaaGreatProg.lean LOADS. Nothing in Lean hashes anything: it is a label: what it is worth is what the hold of that sum in a sandbox is worth. -/
noncomputable def Tryz.pinned : Pinned := { name := "yticklbjcnimggaagreat", sum := "923343c02e648ddd340ca4245d64a8517a47d40df2ddb6dec8f89439dcb24e00", checked := Tryz.checked }
namespace Rows
def none {H : Type} : Left H := { results := [], args := [] }

/-- 'pelotonlaw18.EeditTakes': WHATEVER THE INPUT: true; the input reads as it did. -/
def eeditTakesSpec : ChangeSpec := { name := "eeditTakes", fn := fun _ => fun
  | [d1, d2] => { results := [.lit (.bool true)], args := [d1, d2] }
  | _ => none }
def eeditTakesRow : OpenClaim := { program := "yticklbjcnimggaagreat", sum := "923343c02e648ddd340ca4245d64a8517a47d40df2ddb6dec8f89439dcb24e00", func := "peloton/pelotonlaw18.EeditTakes", spec := "eeditTakes", inPlace := ["math/bits.Add64"], unfollowed := true, recurses := true, plainKeys := false, apart := false }
def EeditTakesSaid : Prop := eeditTakesRow.holds Tryz.pinned (OpenSpec.ofChange eeditTakesSpec)

/-- ITS FALSE NEIGHBOUR: 'it returns false'. Refute it at one input. -/
def eeditTakesWrong : ChangeSpec := { name := "eeditTakes", fn := fun _ => fun
  | [d1, d2] => { results := [.lit (.bool false)], args := [d1, d2] }
  | _ => none }
def EeditTakesWrongFalsely : Prop := eeditTakesRow.holds Tryz.pinned (OpenSpec.ofChange eeditTakesWrong)

/-- 'pelotonlaw17.HeaterMoves': WHATEVER THE INPUT: true; the input reads as it did. -/
def heaterMovesSpec : ChangeSpec := { name := "heaterMoves", fn := fun _ => fun
  | [d1, d2] => { results := [.lit (.bool true)], args := [d1, d2] }
  | _ => none }
def heaterMovesRow : OpenClaim := { program := "yticklbjcnimggaagreat", sum := "923343c02e648ddd340ca4245d64a8517a47d40df2ddb6dec8f89439dcb24e00", func := "peloton/pelotonlaw17.HeaterMoves", spec := "heaterMoves", inPlace := ["math/bits.Add64"], unfollowed := true, recurses := true, plainKeys := false, apart := false }
def HeaterMovesSaid : Prop := heaterMovesRow.holds Tryz.pinned (OpenSpec.ofChange heaterMovesSpec)

/-- ITS FALSE NEIGHBOUR: 'it returns false'. Refute it at one input. -/
def heaterMovesWrong : ChangeSpec := { name := "heaterMoves", fn := fun _ => fun
  | [d1, d2] => { results := [.lit (.bool false)], args := [d1, d2] }
  | _ => none }
def HeaterMovesWrongFalsely : Prop := heaterMovesRow.holds Tryz.pinned (OpenSpec.ofChange heaterMovesWrong)

/-- 'pelotonlaw17.HeaterBuilds': WHATEVER THE INPUT: true; the input reads as it did. -/
def heaterBuildsSpec : ChangeSpec := { name := "heaterBuilds", fn := fun _ => fun
  | [d1, d2, d3] => { results := [.lit (.bool true)], args := [d1, d2, d3] }
  | _ => none }
def heaterBuildsRow : OpenClaim := { program := "yticklbjcnimggaagreat", sum := "923343c02e648ddd340ca4245d64a8517a47d40df2ddb6dec8f89439dcb24e00", func := "peloton/pelotonlaw17.HeaterBuilds", spec := "heaterBuilds", inPlace := ["math/bits.Add64"], unfollowed := true, recurses := true, plainKeys := false, apart := false }
def HeaterBuildsSaid : Prop := heaterBuildsRow.holds Tryz.pinned (OpenSpec.ofChange heaterBuildsSpec)

/-- ITS FALSE NEIGHBOUR: 'it returns false'. Refute it at one input. -/
def heaterBuildsWrong : ChangeSpec := { name := "heaterBuilds", fn := fun _ => fun
  | [d1, d2, d3] => { results := [.lit (.bool false)], args := [d1, d2, d3] }
  | _ => none }
def HeaterBuildsWrongFalsely : Prop := heaterBuildsRow.holds Tryz.pinned (OpenSpec.ofChange heaterBuildsWrong)

/- THE SECOND FORM. 'bulk': how many values and letters a reading holds, each counted each time it is reached (what is shared counts as often as it is met; a slice's spare places count too). A statement '..UptoSaid' is the law's where the arguments, and the package variables that the reading takes, are together of bulk at most 1048576: NARROWER than '..Said'. Prove '..Said' where nothing that the law and all that it calls make is longer than what came in: it says more and counts as full. Else prove '..UptoSaid'. A law counts once. -/
mutual
def uptoBulk {H : Type} : DataW H → Nat
  | .lit (.string bytes) => bytes.length + 1
  | .lit _ => 1
  | .nil => 1
  | .ptr d => uptoBulk d + 1
  | .slice elems spare => uptoBulkAll elems + uptoBulkAll spare + 1
  | .agg parts => uptoBulkAll parts + 1
  | .iface _ d => uptoBulk d + 1
  | .map entries => uptoBulkEntries entries + 1
  | .held _ => 1
def uptoBulkAll {H : Type} : List (DataW H) → Nat
  | [] => 0
  | d :: r => uptoBulk d + uptoBulkAll r
def uptoBulkEntries {H : Type} : List (Lit × DataW H) → Nat
  | [] => 0
  | x :: r => uptoBulkEntry x + uptoBulkEntries r
def uptoBulkEntry {H : Type} : Lit × DataW H → Nat
  | (.string bytes, d) => bytes.length + uptoBulk d + 1
  | (_, d) => uptoBulk d + 1
 end
def uptoSmall : (H : Type) → List (DataW H) → Bool := fun _ ds => decide (uptoBulkAll ds ≤ 1048576)
def OpenSpec.upto (s : _root_.Go.ChangeSpec) : _root_.Go.OpenSpec := { _root_.Go.OpenSpec.ofChange s with cond := some uptoSmall }

/-- 'pelotonlaw18.EeditTakes', WHERE WHAT IT READS IS OF BULK AT MOST 1048576: true; the input reads as it did. -/
def eeditTakesUptoRow : OpenClaim := { program := "yticklbjcnimggaagreat", sum := "923343c02e648ddd340ca4245d64a8517a47d40df2ddb6dec8f89439dcb24e00", func := "peloton/pelotonlaw18.EeditTakes", spec := "eeditTakes", inPlace := ["math/bits.Add64"], unfollowed := true, recurses := true, plainKeys := false, apart := false, narrowed := true }
def EeditTakesUptoSaid : Prop := eeditTakesUptoRow.holds Tryz.pinned (OpenSpec.upto eeditTakesSpec)

/-- 'pelotonlaw17.HeaterMoves', WHERE WHAT IT READS IS OF BULK AT MOST 1048576: true; the input reads as it did. -/
def heaterMovesUptoRow : OpenClaim := { program := "yticklbjcnimggaagreat", sum := "923343c02e648ddd340ca4245d64a8517a47d40df2ddb6dec8f89439dcb24e00", func := "peloton/pelotonlaw17.HeaterMoves", spec := "heaterMoves", inPlace := ["math/bits.Add64"], unfollowed := true, recurses := true, plainKeys := false, apart := false, narrowed := true }
def HeaterMovesUptoSaid : Prop := heaterMovesUptoRow.holds Tryz.pinned (OpenSpec.upto heaterMovesSpec)

/-- 'pelotonlaw17.HeaterBuilds', WHERE WHAT IT READS IS OF BULK AT MOST 1048576: true; the input reads as it did. -/
def heaterBuildsUptoRow : OpenClaim := { program := "yticklbjcnimggaagreat", sum := "923343c02e648ddd340ca4245d64a8517a47d40df2ddb6dec8f89439dcb24e00", func := "peloton/pelotonlaw17.HeaterBuilds", spec := "heaterBuilds", inPlace := ["math/bits.Add64"], unfollowed := true, recurses := true, plainKeys := false, apart := false, narrowed := true }
def HeaterBuildsUptoSaid : Prop := heaterBuildsUptoRow.holds Tryz.pinned (OpenSpec.upto heaterBuildsSpec)

end Rows
end Go.Proofs.YticklbjcnimggaaGreat
