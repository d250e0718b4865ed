/-
  No cell of these rows narrows 'for every input' (looked for: loops, veiled, ifaces, maps, wideKeys, modest, calm, conditions, laid).
  DERIVED. THE GIVEN ROWS OF THIS SEAT. 6 by the template 'for every input the law returns true; each argument reads behind the call as it read before'; 0 by the template 'total and deterministic' (their statements: YtlaphjgijkdgdaaTotals.lean).
  GIVEN WITH THE SEED: the statements are not yours to turn. If you find one false, say at which input.
  Laid BY PROGRAM, IN A SANDBOX (cutbox-rows.mjs): the forced cells as the released guide's own fill.sh prints them over the translation cb3ececf2ef2baff… (all of the seat's roots in one cut). By AI agents, Wed Nov 11 2026. No macro, syntax, notation, axiom, sorry.
-/
import Derived.Test.YtlaphjgijkdgdaaChecked
import GoSem.Claim
import GoSem.ClaimJoined
import GoSem.ClaimMapViews
import Derived.JoinedTies
import Derived.KernelRfl
namespace Go.Proofs.Ytlaphjgijkdgdaa
/- THE CELL 'sum', in the pinned program and in every row, IS THE sha256 OF THE DUMP (.gsa) THAT YtlaphjgijkdgdaaProg.lean LOADS. Nothing in Lean hashes anything: it is a label: what it is worth is what the hold of that sum in a sandbox is worth. -/
noncomputable def Try.pinned : Pinned := { name := "ytlaphjgijkdgdaa", sum := "cb3ececf2ef2bafff2acdabe4a7b3ce232c2bfcb0b86a45c88e8c813a7428417", checked := Try.checked }
namespace Rows
def none {H : Type} : Left H := { results := [], args := [] }

/-- 'laws.FnExactIsSensitiveBlock': WHATEVER THE INPUT: true; the input reads as it did. -/
def fnExactIsSensitiveBlockSpec : ChangeSpec := { name := "fnExactIsSensitiveBlock", fn := fun _ => fun
  | [d1, d2, d3] => { results := [.lit (.bool true)], args := [d1, d2, d3] }
  | _ => none }
def fnExactIsSensitiveBlockRow : OpenClaim := { program := "ytlaphjgijkdgdaa", sum := "cb3ececf2ef2bafff2acdabe4a7b3ce232c2bfcb0b86a45c88e8c813a7428417", func := "loop.example/g03403/laws.FnExactIsSensitiveBlock", spec := "fnExactIsSensitiveBlock", apart := false }
def FnExactIsSensitiveBlockSaid : Prop := fnExactIsSensitiveBlockRow.holds Try.pinned (OpenSpec.ofChange fnExactIsSensitiveBlockSpec)

/-- ITS FALSE NEIGHBOUR: 'it returns false'. Refute it at one input. -/
def fnExactIsSensitiveBlockWrong : ChangeSpec := { name := "fnExactIsSensitiveBlock", fn := fun _ => fun
  | [d1, d2, d3] => { results := [.lit (.bool false)], args := [d1, d2, d3] }
  | _ => none }
def FnExactIsSensitiveBlockWrongFalsely : Prop := fnExactIsSensitiveBlockRow.holds Try.pinned (OpenSpec.ofChange fnExactIsSensitiveBlockWrong)

/-- 'laws.FnExactTestRejects': WHATEVER THE INPUT: true; the input reads as it did. -/
def fnExactTestRejectsSpec : ChangeSpec := { name := "fnExactTestRejects", fn := fun _ => fun
  | [d] => { results := [.lit (.bool true)], args := [d] }
  | _ => none }
def fnExactTestRejectsRow : OpenClaim := { program := "ytlaphjgijkdgdaa", sum := "cb3ececf2ef2bafff2acdabe4a7b3ce232c2bfcb0b86a45c88e8c813a7428417", func := "loop.example/g03403/laws.FnExactTestRejects", spec := "fnExactTestRejects", apart := false }
def FnExactTestRejectsSaid : Prop := fnExactTestRejectsRow.holds Try.pinned (OpenSpec.ofChange fnExactTestRejectsSpec)

/-- ITS FALSE NEIGHBOUR: 'it returns false'. Refute it at one input. -/
def fnExactTestRejectsWrong : ChangeSpec := { name := "fnExactTestRejects", fn := fun _ => fun
  | [d] => { results := [.lit (.bool false)], args := [d] }
  | _ => none }
def FnExactTestRejectsWrongFalsely : Prop := fnExactTestRejectsRow.holds Try.pinned (OpenSpec.ofChange fnExactTestRejectsWrong)

/-- 'laws.FnExactInfluenceOf': WHATEVER THE INPUT: true; the input reads as it did. -/
def fnExactInfluenceOfSpec : ChangeSpec := { name := "fnExactInfluenceOf", fn := fun _ => fun
  | [d1, d2] => { results := [.lit (.bool true)], args := [d1, d2] }
  | _ => none }
def fnExactInfluenceOfRow : OpenClaim := { program := "ytlaphjgijkdgdaa", sum := "cb3ececf2ef2bafff2acdabe4a7b3ce232c2bfcb0b86a45c88e8c813a7428417", func := "loop.example/g03403/laws.FnExactInfluenceOf", spec := "fnExactInfluenceOf", apart := false }
def FnExactInfluenceOfSaid : Prop := fnExactInfluenceOfRow.holds Try.pinned (OpenSpec.ofChange fnExactInfluenceOfSpec)

/-- ITS FALSE NEIGHBOUR: 'it returns false'. Refute it at one input. -/
def fnExactInfluenceOfWrong : ChangeSpec := { name := "fnExactInfluenceOf", fn := fun _ => fun
  | [d1, d2] => { results := [.lit (.bool false)], args := [d1, d2] }
  | _ => none }
def FnExactInfluenceOfWrongFalsely : Prop := fnExactInfluenceOfRow.holds Try.pinned (OpenSpec.ofChange fnExactInfluenceOfWrong)

/-- 'laws.FnExactSensitivityAt': WHATEVER THE INPUT: true; the input reads as it did. -/
def fnExactSensitivityAtSpec : ChangeSpec := { name := "fnExactSensitivityAt", fn := fun _ => fun
  | [d1, d2] => { results := [.lit (.bool true)], args := [d1, d2] }
  | _ => none }
def fnExactSensitivityAtRow : OpenClaim := { program := "ytlaphjgijkdgdaa", sum := "cb3ececf2ef2bafff2acdabe4a7b3ce232c2bfcb0b86a45c88e8c813a7428417", func := "loop.example/g03403/laws.FnExactSensitivityAt", spec := "fnExactSensitivityAt", apart := false }
def FnExactSensitivityAtSaid : Prop := fnExactSensitivityAtRow.holds Try.pinned (OpenSpec.ofChange fnExactSensitivityAtSpec)

/-- ITS FALSE NEIGHBOUR: 'it returns false'. Refute it at one input. -/
def fnExactSensitivityAtWrong : ChangeSpec := { name := "fnExactSensitivityAt", fn := fun _ => fun
  | [d1, d2] => { results := [.lit (.bool false)], args := [d1, d2] }
  | _ => none }
def FnExactSensitivityAtWrongFalsely : Prop := fnExactSensitivityAtRow.holds Try.pinned (OpenSpec.ofChange fnExactSensitivityAtWrong)

/-- 'laws.FnExactSensitiveEdges': WHATEVER THE INPUT: true; the input reads as it did. -/
def fnExactSensitiveEdgesSpec : ChangeSpec := { name := "fnExactSensitiveEdges", fn := fun _ => fun
  | [d] => { results := [.lit (.bool true)], args := [d] }
  | _ => none }
def fnExactSensitiveEdgesRow : OpenClaim := { program := "ytlaphjgijkdgdaa", sum := "cb3ececf2ef2bafff2acdabe4a7b3ce232c2bfcb0b86a45c88e8c813a7428417", func := "loop.example/g03403/laws.FnExactSensitiveEdges", spec := "fnExactSensitiveEdges", apart := false }
def FnExactSensitiveEdgesSaid : Prop := fnExactSensitiveEdgesRow.holds Try.pinned (OpenSpec.ofChange fnExactSensitiveEdgesSpec)

/-- ITS FALSE NEIGHBOUR: 'it returns false'. Refute it at one input. -/
def fnExactSensitiveEdgesWrong : ChangeSpec := { name := "fnExactSensitiveEdges", fn := fun _ => fun
  | [d] => { results := [.lit (.bool false)], args := [d] }
  | _ => none }
def FnExactSensitiveEdgesWrongFalsely : Prop := fnExactSensitiveEdgesRow.holds Try.pinned (OpenSpec.ofChange fnExactSensitiveEdgesWrong)

/-- 'laws.FnExactSensitivityOf': WHATEVER THE INPUT: true; the input reads as it did. -/
def fnExactSensitivityOfSpec : ChangeSpec := { name := "fnExactSensitivityOf", fn := fun _ => fun
  | [d] => { results := [.lit (.bool true)], args := [d] }
  | _ => none }
def fnExactSensitivityOfRow : OpenClaim := { program := "ytlaphjgijkdgdaa", sum := "cb3ececf2ef2bafff2acdabe4a7b3ce232c2bfcb0b86a45c88e8c813a7428417", func := "loop.example/g03403/laws.FnExactSensitivityOf", spec := "fnExactSensitivityOf", apart := false }
def FnExactSensitivityOfSaid : Prop := fnExactSensitivityOfRow.holds Try.pinned (OpenSpec.ofChange fnExactSensitivityOfSpec)

/-- ITS FALSE NEIGHBOUR: 'it returns false'. Refute it at one input. -/
def fnExactSensitivityOfWrong : ChangeSpec := { name := "fnExactSensitivityOf", fn := fun _ => fun
  | [d] => { results := [.lit (.bool false)], args := [d] }
  | _ => none }
def FnExactSensitivityOfWrongFalsely : Prop := fnExactSensitivityOfRow.holds Try.pinned (OpenSpec.ofChange fnExactSensitivityOfWrong)

/- THE SECOND FORM. 'bulk': how many values and letters a reading holds, each counted each time it is reached (what is shared counts as often as it is met; a slice's spare places count too). A statement '..UptoSaid' is the law's where the arguments, and the package variables that the reading takes, are together of bulk at most 1048576: NARROWER than '..Said'. Prove '..Said' where nothing that the law and all that it calls make is longer than what came in: it says more and counts as full. Else prove '..UptoSaid'. A law counts once. -/
mutual
def uptoBulk {H : Type} : DataW H → Nat
  | .lit (.string bytes) => bytes.length + 1
  | .lit _ => 1
  | .nil => 1
  | .ptr d => uptoBulk d + 1
  | .slice elems spare => uptoBulkAll elems + uptoBulkAll spare + 1
  | .agg parts => uptoBulkAll parts + 1
  | .iface _ d => uptoBulk d + 1
  | .map entries => uptoBulkEntries entries + 1
  | .held _ => 1
def uptoBulkAll {H : Type} : List (DataW H) → Nat
  | [] => 0
  | d :: r => uptoBulk d + uptoBulkAll r
def uptoBulkEntries {H : Type} : List (Lit × DataW H) → Nat
  | [] => 0
  | x :: r => uptoBulkEntry x + uptoBulkEntries r
def uptoBulkEntry {H : Type} : Lit × DataW H → Nat
  | (.string bytes, d) => bytes.length + uptoBulk d + 1
  | (_, d) => uptoBulk d + 1
 end
def uptoSmall : (H : Type) → List (DataW H) → Bool := fun _ ds => decide (uptoBulkAll ds ≤ 1048576)
def OpenSpec.upto (s : _root_.Go.ChangeSpec) : _root_.Go.OpenSpec := { _root_.Go.OpenSpec.ofChange s with cond := some uptoSmall }

/-- 'laws.FnExactIsSensitiveBlock', WHERE WHAT IT READS IS OF BULK AT MOST 1048576: true; the input reads as it did. -/
def fnExactIsSensitiveBlockUptoRow : OpenClaim := { program := "ytlaphjgijkdgdaa", sum := "cb3ececf2ef2bafff2acdabe4a7b3ce232c2bfcb0b86a45c88e8c813a7428417", func := "loop.example/g03403/laws.FnExactIsSensitiveBlock", spec := "fnExactIsSensitiveBlock", apart := false, narrowed := true }
def FnExactIsSensitiveBlockUptoSaid : Prop := fnExactIsSensitiveBlockUptoRow.holds Try.pinned (OpenSpec.upto fnExactIsSensitiveBlockSpec)

/-- 'laws.FnExactTestRejects', WHERE WHAT IT READS IS OF BULK AT MOST 1048576: true; the input reads as it did. -/
def fnExactTestRejectsUptoRow : OpenClaim := { program := "ytlaphjgijkdgdaa", sum := "cb3ececf2ef2bafff2acdabe4a7b3ce232c2bfcb0b86a45c88e8c813a7428417", func := "loop.example/g03403/laws.FnExactTestRejects", spec := "fnExactTestRejects", apart := false, narrowed := true }
def FnExactTestRejectsUptoSaid : Prop := fnExactTestRejectsUptoRow.holds Try.pinned (OpenSpec.upto fnExactTestRejectsSpec)

/-- 'laws.FnExactInfluenceOf', WHERE WHAT IT READS IS OF BULK AT MOST 1048576: true; the input reads as it did. -/
def fnExactInfluenceOfUptoRow : OpenClaim := { program := "ytlaphjgijkdgdaa", sum := "cb3ececf2ef2bafff2acdabe4a7b3ce232c2bfcb0b86a45c88e8c813a7428417", func := "loop.example/g03403/laws.FnExactInfluenceOf", spec := "fnExactInfluenceOf", apart := false, narrowed := true }
def FnExactInfluenceOfUptoSaid : Prop := fnExactInfluenceOfUptoRow.holds Try.pinned (OpenSpec.upto fnExactInfluenceOfSpec)

/-- 'laws.FnExactSensitivityAt', WHERE WHAT IT READS IS OF BULK AT MOST 1048576: true; the input reads as it did. -/
def fnExactSensitivityAtUptoRow : OpenClaim := { program := "ytlaphjgijkdgdaa", sum := "cb3ececf2ef2bafff2acdabe4a7b3ce232c2bfcb0b86a45c88e8c813a7428417", func := "loop.example/g03403/laws.FnExactSensitivityAt", spec := "fnExactSensitivityAt", apart := false, narrowed := true }
def FnExactSensitivityAtUptoSaid : Prop := fnExactSensitivityAtUptoRow.holds Try.pinned (OpenSpec.upto fnExactSensitivityAtSpec)

/-- 'laws.FnExactSensitiveEdges', WHERE WHAT IT READS IS OF BULK AT MOST 1048576: true; the input reads as it did. -/
def fnExactSensitiveEdgesUptoRow : OpenClaim := { program := "ytlaphjgijkdgdaa", sum := "cb3ececf2ef2bafff2acdabe4a7b3ce232c2bfcb0b86a45c88e8c813a7428417", func := "loop.example/g03403/laws.FnExactSensitiveEdges", spec := "fnExactSensitiveEdges", apart := false, narrowed := true }
def FnExactSensitiveEdgesUptoSaid : Prop := fnExactSensitiveEdgesUptoRow.holds Try.pinned (OpenSpec.upto fnExactSensitiveEdgesSpec)

/-- 'laws.FnExactSensitivityOf', WHERE WHAT IT READS IS OF BULK AT MOST 1048576: true; the input reads as it did. -/
def fnExactSensitivityOfUptoRow : OpenClaim := { program := "ytlaphjgijkdgdaa", sum := "cb3ececf2ef2bafff2acdabe4a7b3ce232c2bfcb0b86a45c88e8c813a7428417", func := "loop.example/g03403/laws.FnExactSensitivityOf", spec := "fnExactSensitivityOf", apart := false, narrowed := true }
def FnExactSensitivityOfUptoSaid : Prop := fnExactSensitivityOfUptoRow.holds Try.pinned (OpenSpec.upto fnExactSensitivityOfSpec)

end Rows
end Go.Proofs.Ytlaphjgijkdgdaa
