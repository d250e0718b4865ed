/-
  No cell of these rows narrows 'for every input' (looked for: loops, veiled, ifaces, maps, wideKeys, modest, calm, conditions, laid).
  DERIVED. THE GIVEN ROWS OF THIS SEAT. 4 by the template 'for every input the law returns true; each argument reads behind the call as it read before'; 0 by the template 'total and deterministic' (their statements: YtfpcgcmajdebmaaTotals.lean).
  GIVEN WITH THE SEED: the statements are not yours to turn. If you find one false, say at which input.
  Laid BY PROGRAM, IN A SANDBOX (cutbox-rows.mjs): the forced cells as the released guide's own fill.sh prints them over the translation 5c2b5a2360af3a53… (all of the seat's roots in one cut). By AI agents, Wed Nov 11 2026. No macro, syntax, notation, axiom, sorry.
-/
import Derived.Test.YtfpcgcmajdebmaaChecked
import GoSem.Claim
import GoSem.ClaimJoined
import GoSem.ClaimMapViews
import Derived.JoinedTies
import Derived.KernelRfl
namespace Go.Proofs.Ytfpcgcmajdebmaa
/- THE CELL 'sum', in the pinned program and in every row, IS THE sha256 OF THE DUMP (.gsa) THAT YtfpcgcmajdebmaaProg.lean LOADS. Nothing in Lean hashes anything: it is a label: what it is worth is what the hold of that sum in a sandbox is worth. -/
noncomputable def Try.pinned : Pinned := { name := "ytfpcgcmajdebmaa", sum := "5c2b5a2360af3a53543db119ed41667cf429e0657369ec680469d27864057b2d", checked := Try.checked }
namespace Rows
def none {H : Type} : Left H := { results := [], args := [] }

/-- 'laws.FnExactQueriesOf': WHATEVER THE INPUT: true; the input reads as it did. -/
def fnExactQueriesOfSpec : ChangeSpec := { name := "fnExactQueriesOf", fn := fun _ => fun
  | [d1, d2] => { results := [.lit (.bool true)], args := [d1, d2] }
  | _ => none }
def fnExactQueriesOfRow : OpenClaim := { program := "ytfpcgcmajdebmaa", sum := "5c2b5a2360af3a53543db119ed41667cf429e0657369ec680469d27864057b2d", func := "loop.example/g03403/laws.FnExactQueriesOf", spec := "fnExactQueriesOf", recurses := true, apart := false }
def FnExactQueriesOfSaid : Prop := fnExactQueriesOfRow.holds Try.pinned (OpenSpec.ofChange fnExactQueriesOfSpec)

/-- ITS FALSE NEIGHBOUR: 'it returns false'. Refute it at one input. -/
def fnExactQueriesOfWrong : ChangeSpec := { name := "fnExactQueriesOf", fn := fun _ => fun
  | [d1, d2] => { results := [.lit (.bool false)], args := [d1, d2] }
  | _ => none }
def FnExactQueriesOfWrongFalsely : Prop := fnExactQueriesOfRow.holds Try.pinned (OpenSpec.ofChange fnExactQueriesOfWrong)

/-- 'laws.FnExactTableOfTree': WHATEVER THE INPUT: true; the input reads as it did. -/
def fnExactTableOfTreeSpec : ChangeSpec := { name := "fnExactTableOfTree", fn := fun _ => fun
  | [d1, d2] => { results := [.lit (.bool true)], args := [d1, d2] }
  | _ => none }
def fnExactTableOfTreeRow : OpenClaim := { program := "ytfpcgcmajdebmaa", sum := "5c2b5a2360af3a53543db119ed41667cf429e0657369ec680469d27864057b2d", func := "loop.example/g03403/laws.FnExactTableOfTree", spec := "fnExactTableOfTree", unfollowed := true, recurses := true, apart := false }
def FnExactTableOfTreeSaid : Prop := fnExactTableOfTreeRow.holds Try.pinned (OpenSpec.ofChange fnExactTableOfTreeSpec)

/-- ITS FALSE NEIGHBOUR: 'it returns false'. Refute it at one input. -/
def fnExactTableOfTreeWrong : ChangeSpec := { name := "fnExactTableOfTree", fn := fun _ => fun
  | [d1, d2] => { results := [.lit (.bool false)], args := [d1, d2] }
  | _ => none }
def FnExactTableOfTreeWrongFalsely : Prop := fnExactTableOfTreeRow.holds Try.pinned (OpenSpec.ofChange fnExactTableOfTreeWrong)

/-- 'laws.FnExactAverageOf': WHATEVER THE INPUT: true; the input reads as it did. -/
def fnExactAverageOfSpec : ChangeSpec := { name := "fnExactAverageOf", fn := fun _ => fun
  | [d1, d2] => { results := [.lit (.bool true)], args := [d1, d2] }
  | _ => none }
def fnExactAverageOfRow : OpenClaim := { program := "ytfpcgcmajdebmaa", sum := "5c2b5a2360af3a53543db119ed41667cf429e0657369ec680469d27864057b2d", func := "loop.example/g03403/laws.FnExactAverageOf", spec := "fnExactAverageOf", unfollowed := true, recurses := true, apart := false }
def FnExactAverageOfSaid : Prop := fnExactAverageOfRow.holds Try.pinned (OpenSpec.ofChange fnExactAverageOfSpec)

/-- ITS FALSE NEIGHBOUR: 'it returns false'. Refute it at one input. -/
def fnExactAverageOfWrong : ChangeSpec := { name := "fnExactAverageOf", fn := fun _ => fun
  | [d1, d2] => { results := [.lit (.bool false)], args := [d1, d2] }
  | _ => none }
def FnExactAverageOfWrongFalsely : Prop := fnExactAverageOfRow.holds Try.pinned (OpenSpec.ofChange fnExactAverageOfWrong)

/-- 'laws.FnExactTableOfFormula': WHATEVER THE INPUT: true; the input reads as it did. -/
def fnExactTableOfFormulaSpec : ChangeSpec := { name := "fnExactTableOfFormula", fn := fun _ => fun
  | [d1, d2] => { results := [.lit (.bool true)], args := [d1, d2] }
  | _ => none }
def fnExactTableOfFormulaRow : OpenClaim := { program := "ytfpcgcmajdebmaa", sum := "5c2b5a2360af3a53543db119ed41667cf429e0657369ec680469d27864057b2d", func := "loop.example/g03403/laws.FnExactTableOfFormula", spec := "fnExactTableOfFormula", unfollowed := true, recurses := true, apart := false }
def FnExactTableOfFormulaSaid : Prop := fnExactTableOfFormulaRow.holds Try.pinned (OpenSpec.ofChange fnExactTableOfFormulaSpec)

/-- ITS FALSE NEIGHBOUR: 'it returns false'. Refute it at one input. -/
def fnExactTableOfFormulaWrong : ChangeSpec := { name := "fnExactTableOfFormula", fn := fun _ => fun
  | [d1, d2] => { results := [.lit (.bool false)], args := [d1, d2] }
  | _ => none }
def FnExactTableOfFormulaWrongFalsely : Prop := fnExactTableOfFormulaRow.holds Try.pinned (OpenSpec.ofChange fnExactTableOfFormulaWrong)

/- THE SECOND FORM. 'bulk': how many values and letters a reading holds, each counted each time it is reached (what is shared counts as often as it is met; a slice's spare places count too). A statement '..UptoSaid' is the law's where the arguments, and the package variables that the reading takes, are together of bulk at most 1048576: NARROWER than '..Said'. Prove '..Said' where nothing that the law and all that it calls make is longer than what came in: it says more and counts as full. Else prove '..UptoSaid'. A law counts once. -/
mutual
def uptoBulk {H : Type} : DataW H → Nat
  | .lit (.string bytes) => bytes.length + 1
  | .lit _ => 1
  | .nil => 1
  | .ptr d => uptoBulk d + 1
  | .slice elems spare => uptoBulkAll elems + uptoBulkAll spare + 1
  | .agg parts => uptoBulkAll parts + 1
  | .iface _ d => uptoBulk d + 1
  | .map entries => uptoBulkEntries entries + 1
  | .held _ => 1
def uptoBulkAll {H : Type} : List (DataW H) → Nat
  | [] => 0
  | d :: r => uptoBulk d + uptoBulkAll r
def uptoBulkEntries {H : Type} : List (Lit × DataW H) → Nat
  | [] => 0
  | x :: r => uptoBulkEntry x + uptoBulkEntries r
def uptoBulkEntry {H : Type} : Lit × DataW H → Nat
  | (.string bytes, d) => bytes.length + uptoBulk d + 1
  | (_, d) => uptoBulk d + 1
 end
def uptoSmall : (H : Type) → List (DataW H) → Bool := fun _ ds => decide (uptoBulkAll ds ≤ 1048576)
def OpenSpec.upto (s : _root_.Go.ChangeSpec) : _root_.Go.OpenSpec := { _root_.Go.OpenSpec.ofChange s with cond := some uptoSmall }

/-- 'laws.FnExactQueriesOf', WHERE WHAT IT READS IS OF BULK AT MOST 1048576: true; the input reads as it did. -/
def fnExactQueriesOfUptoRow : OpenClaim := { program := "ytfpcgcmajdebmaa", sum := "5c2b5a2360af3a53543db119ed41667cf429e0657369ec680469d27864057b2d", func := "loop.example/g03403/laws.FnExactQueriesOf", spec := "fnExactQueriesOf", recurses := true, apart := false, narrowed := true }
def FnExactQueriesOfUptoSaid : Prop := fnExactQueriesOfUptoRow.holds Try.pinned (OpenSpec.upto fnExactQueriesOfSpec)

/-- 'laws.FnExactTableOfTree', WHERE WHAT IT READS IS OF BULK AT MOST 1048576: true; the input reads as it did. -/
def fnExactTableOfTreeUptoRow : OpenClaim := { program := "ytfpcgcmajdebmaa", sum := "5c2b5a2360af3a53543db119ed41667cf429e0657369ec680469d27864057b2d", func := "loop.example/g03403/laws.FnExactTableOfTree", spec := "fnExactTableOfTree", unfollowed := true, recurses := true, apart := false, narrowed := true }
def FnExactTableOfTreeUptoSaid : Prop := fnExactTableOfTreeUptoRow.holds Try.pinned (OpenSpec.upto fnExactTableOfTreeSpec)

/-- 'laws.FnExactAverageOf', WHERE WHAT IT READS IS OF BULK AT MOST 1048576: true; the input reads as it did. -/
def fnExactAverageOfUptoRow : OpenClaim := { program := "ytfpcgcmajdebmaa", sum := "5c2b5a2360af3a53543db119ed41667cf429e0657369ec680469d27864057b2d", func := "loop.example/g03403/laws.FnExactAverageOf", spec := "fnExactAverageOf", unfollowed := true, recurses := true, apart := false, narrowed := true }
def FnExactAverageOfUptoSaid : Prop := fnExactAverageOfUptoRow.holds Try.pinned (OpenSpec.upto fnExactAverageOfSpec)

/-- 'laws.FnExactTableOfFormula', WHERE WHAT IT READS IS OF BULK AT MOST 1048576: true; the input reads as it did. -/
def fnExactTableOfFormulaUptoRow : OpenClaim := { program := "ytfpcgcmajdebmaa", sum := "5c2b5a2360af3a53543db119ed41667cf429e0657369ec680469d27864057b2d", func := "loop.example/g03403/laws.FnExactTableOfFormula", spec := "fnExactTableOfFormula", unfollowed := true, recurses := true, apart := false, narrowed := true }
def FnExactTableOfFormulaUptoSaid : Prop := fnExactTableOfFormulaUptoRow.holds Try.pinned (OpenSpec.upto fnExactTableOfFormulaSpec)

end Rows
end Go.Proofs.Ytfpcgcmajdebmaa
