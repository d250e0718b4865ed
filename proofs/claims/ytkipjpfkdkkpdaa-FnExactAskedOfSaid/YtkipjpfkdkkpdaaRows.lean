/-
  No cell of these rows narrows 'for every input' (looked for: loops, veiled, ifaces, maps, wideKeys, modest, calm, conditions, laid).
  DERIVED. THE GIVEN ROWS OF THIS SEAT. 7 by the template 'for every input the law returns true; each argument reads behind the call as it read before'; 0 by the template 'total and deterministic' (their statements: YtkipjpfkdkkpdaaTotals.lean).
  GIVEN WITH THE SEED: the statements are not yours to turn. If you find one false, say at which input.
  Laid BY PROGRAM, IN A SANDBOX (cutbox-rows.mjs): the forced cells as the released guide's own fill.sh prints them over the translation 1cab68e924ccb929… (all of the seat's roots in one cut). By AI agents, Wed Nov 11 2026. No macro, syntax, notation, axiom, sorry.
-/
import Derived.Test.YtkipjpfkdkkpdaaChecked
import GoSem.Claim
import GoSem.ClaimJoined
import GoSem.ClaimMapViews
import Derived.JoinedTies
import Derived.KernelRfl
namespace Go.Proofs.Ytkipjpfkdkkpdaa
/- THE CELL 'sum', in the pinned program and in every row, IS THE sha256 OF THE DUMP (.gsa) THAT YtkipjpfkdkkpdaaProg.lean LOADS. Nothing in Lean hashes anything: it is a label: what it is worth is what the hold of that sum in a sandbox is worth. -/
noncomputable def Try.pinned : Pinned := { name := "ytkipjpfkdkkpdaa", sum := "1cab68e924ccb92965b163efe44f595cc9c20eac3817281425c9b49345da59dc", checked := Try.checked }
namespace Rows
def none {H : Type} : Left H := { results := [], args := [] }

/-- 'laws.FnExactIsEvasive': WHATEVER THE INPUT: true; the input reads as it did. -/
def fnExactIsEvasiveSpec : ChangeSpec := { name := "fnExactIsEvasive", fn := fun _ => fun
  | [d] => { results := [.lit (.bool true)], args := [d] }
  | _ => none }
def fnExactIsEvasiveRow : OpenClaim := { program := "ytkipjpfkdkkpdaa", sum := "1cab68e924ccb92965b163efe44f595cc9c20eac3817281425c9b49345da59dc", func := "loop.example/g03403/laws.FnExactIsEvasive", spec := "fnExactIsEvasive", recurses := true, plainKeys := false, apart := false }
def FnExactIsEvasiveSaid : Prop := fnExactIsEvasiveRow.holds Try.pinned (OpenSpec.ofChange fnExactIsEvasiveSpec)

/-- ITS FALSE NEIGHBOUR: 'it returns false'. Refute it at one input. -/
def fnExactIsEvasiveWrong : ChangeSpec := { name := "fnExactIsEvasive", fn := fun _ => fun
  | [d] => { results := [.lit (.bool false)], args := [d] }
  | _ => none }
def FnExactIsEvasiveWrongFalsely : Prop := fnExactIsEvasiveRow.holds Try.pinned (OpenSpec.ofChange fnExactIsEvasiveWrong)

/-- 'laws.FnExactForcedLeft': WHATEVER THE INPUT: true; the input reads as it did. -/
def fnExactForcedLeftSpec : ChangeSpec := { name := "fnExactForcedLeft", fn := fun _ => fun
  | [d1, d2, d3] => { results := [.lit (.bool true)], args := [d1, d2, d3] }
  | _ => none }
def fnExactForcedLeftRow : OpenClaim := { program := "ytkipjpfkdkkpdaa", sum := "1cab68e924ccb92965b163efe44f595cc9c20eac3817281425c9b49345da59dc", func := "loop.example/g03403/laws.FnExactForcedLeft", spec := "fnExactForcedLeft", recurses := true, plainKeys := false, apart := false }
def FnExactForcedLeftSaid : Prop := fnExactForcedLeftRow.holds Try.pinned (OpenSpec.ofChange fnExactForcedLeftSpec)

/-- ITS FALSE NEIGHBOUR: 'it returns false'. Refute it at one input. -/
def fnExactForcedLeftWrong : ChangeSpec := { name := "fnExactForcedLeft", fn := fun _ => fun
  | [d1, d2, d3] => { results := [.lit (.bool false)], args := [d1, d2, d3] }
  | _ => none }
def FnExactForcedLeftWrongFalsely : Prop := fnExactForcedLeftRow.holds Try.pinned (OpenSpec.ofChange fnExactForcedLeftWrong)

/-- 'laws.FnExactAdversaryAnswer': WHATEVER THE INPUT: true; the input reads as it did. -/
def fnExactAdversaryAnswerSpec : ChangeSpec := { name := "fnExactAdversaryAnswer", fn := fun _ => fun
  | [d1, d2, d3, d4] => { results := [.lit (.bool true)], args := [d1, d2, d3, d4] }
  | _ => none }
def fnExactAdversaryAnswerRow : OpenClaim := { program := "ytkipjpfkdkkpdaa", sum := "1cab68e924ccb92965b163efe44f595cc9c20eac3817281425c9b49345da59dc", func := "loop.example/g03403/laws.FnExactAdversaryAnswer", spec := "fnExactAdversaryAnswer", recurses := true, plainKeys := false, apart := false }
def FnExactAdversaryAnswerSaid : Prop := fnExactAdversaryAnswerRow.holds Try.pinned (OpenSpec.ofChange fnExactAdversaryAnswerSpec)

/-- ITS FALSE NEIGHBOUR: 'it returns false'. Refute it at one input. -/
def fnExactAdversaryAnswerWrong : ChangeSpec := { name := "fnExactAdversaryAnswer", fn := fun _ => fun
  | [d1, d2, d3, d4] => { results := [.lit (.bool false)], args := [d1, d2, d3, d4] }
  | _ => none }
def FnExactAdversaryAnswerWrongFalsely : Prop := fnExactAdversaryAnswerRow.holds Try.pinned (OpenSpec.ofChange fnExactAdversaryAnswerWrong)

/-- 'laws.FnExactAskedOf': WHATEVER THE INPUT: true; the input reads as it did. -/
def fnExactAskedOfSpec : ChangeSpec := { name := "fnExactAskedOf", fn := fun _ => fun
  | [d1, d2, d3] => { results := [.lit (.bool true)], args := [d1, d2, d3] }
  | _ => none }
def fnExactAskedOfRow : OpenClaim := { program := "ytkipjpfkdkkpdaa", sum := "1cab68e924ccb92965b163efe44f595cc9c20eac3817281425c9b49345da59dc", func := "loop.example/g03403/laws.FnExactAskedOf", spec := "fnExactAskedOf", recurses := true, plainKeys := false, apart := false }
def FnExactAskedOfSaid : Prop := fnExactAskedOfRow.holds Try.pinned (OpenSpec.ofChange fnExactAskedOfSpec)

/-- ITS FALSE NEIGHBOUR: 'it returns false'. Refute it at one input. -/
def fnExactAskedOfWrong : ChangeSpec := { name := "fnExactAskedOf", fn := fun _ => fun
  | [d1, d2, d3] => { results := [.lit (.bool false)], args := [d1, d2, d3] }
  | _ => none }
def FnExactAskedOfWrongFalsely : Prop := fnExactAskedOfRow.holds Try.pinned (OpenSpec.ofChange fnExactAskedOfWrong)

/-- 'laws.FnExactPlayAgainst': WHATEVER THE INPUT: true; the input reads as it did. -/
def fnExactPlayAgainstSpec : ChangeSpec := { name := "fnExactPlayAgainst", fn := fun _ => fun
  | [d1, d2] => { results := [.lit (.bool true)], args := [d1, d2] }
  | _ => none }
def fnExactPlayAgainstRow : OpenClaim := { program := "ytkipjpfkdkkpdaa", sum := "1cab68e924ccb92965b163efe44f595cc9c20eac3817281425c9b49345da59dc", func := "loop.example/g03403/laws.FnExactPlayAgainst", spec := "fnExactPlayAgainst", recurses := true, plainKeys := false, apart := false }
def FnExactPlayAgainstSaid : Prop := fnExactPlayAgainstRow.holds Try.pinned (OpenSpec.ofChange fnExactPlayAgainstSpec)

/-- ITS FALSE NEIGHBOUR: 'it returns false'. Refute it at one input. -/
def fnExactPlayAgainstWrong : ChangeSpec := { name := "fnExactPlayAgainst", fn := fun _ => fun
  | [d1, d2] => { results := [.lit (.bool false)], args := [d1, d2] }
  | _ => none }
def FnExactPlayAgainstWrongFalsely : Prop := fnExactPlayAgainstRow.holds Try.pinned (OpenSpec.ofChange fnExactPlayAgainstWrong)

/-- 'laws.FnExactLeastAverage': WHATEVER THE INPUT: true; the input reads as it did. -/
def fnExactLeastAverageSpec : ChangeSpec := { name := "fnExactLeastAverage", fn := fun _ => fun
  | [d] => { results := [.lit (.bool true)], args := [d] }
  | _ => none }
def fnExactLeastAverageRow : OpenClaim := { program := "ytkipjpfkdkkpdaa", sum := "1cab68e924ccb92965b163efe44f595cc9c20eac3817281425c9b49345da59dc", func := "loop.example/g03403/laws.FnExactLeastAverage", spec := "fnExactLeastAverage", recurses := true, plainKeys := false, apart := false }
def FnExactLeastAverageSaid : Prop := fnExactLeastAverageRow.holds Try.pinned (OpenSpec.ofChange fnExactLeastAverageSpec)

/-- ITS FALSE NEIGHBOUR: 'it returns false'. Refute it at one input. -/
def fnExactLeastAverageWrong : ChangeSpec := { name := "fnExactLeastAverage", fn := fun _ => fun
  | [d] => { results := [.lit (.bool false)], args := [d] }
  | _ => none }
def FnExactLeastAverageWrongFalsely : Prop := fnExactLeastAverageRow.holds Try.pinned (OpenSpec.ofChange fnExactLeastAverageWrong)

/-- 'laws.FnAdversaries': WHATEVER THE INPUT: true; the input reads as it did. -/
def fnAdversariesSpec : ChangeSpec := { name := "fnAdversaries", fn := fun _ => fun
  | [d] => { results := [.lit (.bool true)], args := [d] }
  | _ => none }
def fnAdversariesRow : OpenClaim := { program := "ytkipjpfkdkkpdaa", sum := "1cab68e924ccb92965b163efe44f595cc9c20eac3817281425c9b49345da59dc", func := "loop.example/g03403/laws.FnAdversaries", spec := "fnAdversaries", recurses := true, plainKeys := false, apart := false }
def FnAdversariesSaid : Prop := fnAdversariesRow.holds Try.pinned (OpenSpec.ofChange fnAdversariesSpec)

/-- ITS FALSE NEIGHBOUR: 'it returns false'. Refute it at one input. -/
def fnAdversariesWrong : ChangeSpec := { name := "fnAdversaries", fn := fun _ => fun
  | [d] => { results := [.lit (.bool false)], args := [d] }
  | _ => none }
def FnAdversariesWrongFalsely : Prop := fnAdversariesRow.holds Try.pinned (OpenSpec.ofChange fnAdversariesWrong)

/- THE SECOND FORM. 'bulk': how many values and letters a reading holds, each counted each time it is reached (what is shared counts as often as it is met; a slice's spare places count too). A statement '..UptoSaid' is the law's where the arguments, and the package variables that the reading takes, are together of bulk at most 1048576: NARROWER than '..Said'. Prove '..Said' where nothing that the law and all that it calls make is longer than what came in: it says more and counts as full. Else prove '..UptoSaid'. A law counts once. -/
mutual
def uptoBulk {H : Type} : DataW H → Nat
  | .lit (.string bytes) => bytes.length + 1
  | .lit _ => 1
  | .nil => 1
  | .ptr d => uptoBulk d + 1
  | .slice elems spare => uptoBulkAll elems + uptoBulkAll spare + 1
  | .agg parts => uptoBulkAll parts + 1
  | .iface _ d => uptoBulk d + 1
  | .map entries => uptoBulkEntries entries + 1
  | .held _ => 1
def uptoBulkAll {H : Type} : List (DataW H) → Nat
  | [] => 0
  | d :: r => uptoBulk d + uptoBulkAll r
def uptoBulkEntries {H : Type} : List (Lit × DataW H) → Nat
  | [] => 0
  | x :: r => uptoBulkEntry x + uptoBulkEntries r
def uptoBulkEntry {H : Type} : Lit × DataW H → Nat
  | (.string bytes, d) => bytes.length + uptoBulk d + 1
  | (_, d) => uptoBulk d + 1
 end
def uptoSmall : (H : Type) → List (DataW H) → Bool := fun _ ds => decide (uptoBulkAll ds ≤ 1048576)
def OpenSpec.upto (s : _root_.Go.ChangeSpec) : _root_.Go.OpenSpec := { _root_.Go.OpenSpec.ofChange s with cond := some uptoSmall }

/-- 'laws.FnExactIsEvasive', WHERE WHAT IT READS IS OF BULK AT MOST 1048576: true; the input reads as it did. -/
def fnExactIsEvasiveUptoRow : OpenClaim := { program := "ytkipjpfkdkkpdaa", sum := "1cab68e924ccb92965b163efe44f595cc9c20eac3817281425c9b49345da59dc", func := "loop.example/g03403/laws.FnExactIsEvasive", spec := "fnExactIsEvasive", recurses := true, plainKeys := false, apart := false, narrowed := true }
def FnExactIsEvasiveUptoSaid : Prop := fnExactIsEvasiveUptoRow.holds Try.pinned (OpenSpec.upto fnExactIsEvasiveSpec)

/-- 'laws.FnExactForcedLeft', WHERE WHAT IT READS IS OF BULK AT MOST 1048576: true; the input reads as it did. -/
def fnExactForcedLeftUptoRow : OpenClaim := { program := "ytkipjpfkdkkpdaa", sum := "1cab68e924ccb92965b163efe44f595cc9c20eac3817281425c9b49345da59dc", func := "loop.example/g03403/laws.FnExactForcedLeft", spec := "fnExactForcedLeft", recurses := true, plainKeys := false, apart := false, narrowed := true }
def FnExactForcedLeftUptoSaid : Prop := fnExactForcedLeftUptoRow.holds Try.pinned (OpenSpec.upto fnExactForcedLeftSpec)

/-- 'laws.FnExactAdversaryAnswer', WHERE WHAT IT READS IS OF BULK AT MOST 1048576: true; the input reads as it did. -/
def fnExactAdversaryAnswerUptoRow : OpenClaim := { program := "ytkipjpfkdkkpdaa", sum := "1cab68e924ccb92965b163efe44f595cc9c20eac3817281425c9b49345da59dc", func := "loop.example/g03403/laws.FnExactAdversaryAnswer", spec := "fnExactAdversaryAnswer", recurses := true, plainKeys := false, apart := false, narrowed := true }
def FnExactAdversaryAnswerUptoSaid : Prop := fnExactAdversaryAnswerUptoRow.holds Try.pinned (OpenSpec.upto fnExactAdversaryAnswerSpec)

/-- 'laws.FnExactAskedOf', WHERE WHAT IT READS IS OF BULK AT MOST 1048576: true; the input reads as it did. -/
def fnExactAskedOfUptoRow : OpenClaim := { program := "ytkipjpfkdkkpdaa", sum := "1cab68e924ccb92965b163efe44f595cc9c20eac3817281425c9b49345da59dc", func := "loop.example/g03403/laws.FnExactAskedOf", spec := "fnExactAskedOf", recurses := true, plainKeys := false, apart := false, narrowed := true }
def FnExactAskedOfUptoSaid : Prop := fnExactAskedOfUptoRow.holds Try.pinned (OpenSpec.upto fnExactAskedOfSpec)

/-- 'laws.FnExactPlayAgainst', WHERE WHAT IT READS IS OF BULK AT MOST 1048576: true; the input reads as it did. -/
def fnExactPlayAgainstUptoRow : OpenClaim := { program := "ytkipjpfkdkkpdaa", sum := "1cab68e924ccb92965b163efe44f595cc9c20eac3817281425c9b49345da59dc", func := "loop.example/g03403/laws.FnExactPlayAgainst", spec := "fnExactPlayAgainst", recurses := true, plainKeys := false, apart := false, narrowed := true }
def FnExactPlayAgainstUptoSaid : Prop := fnExactPlayAgainstUptoRow.holds Try.pinned (OpenSpec.upto fnExactPlayAgainstSpec)

/-- 'laws.FnExactLeastAverage', WHERE WHAT IT READS IS OF BULK AT MOST 1048576: true; the input reads as it did. -/
def fnExactLeastAverageUptoRow : OpenClaim := { program := "ytkipjpfkdkkpdaa", sum := "1cab68e924ccb92965b163efe44f595cc9c20eac3817281425c9b49345da59dc", func := "loop.example/g03403/laws.FnExactLeastAverage", spec := "fnExactLeastAverage", recurses := true, plainKeys := false, apart := false, narrowed := true }
def FnExactLeastAverageUptoSaid : Prop := fnExactLeastAverageUptoRow.holds Try.pinned (OpenSpec.upto fnExactLeastAverageSpec)

/-- 'laws.FnAdversaries', WHERE WHAT IT READS IS OF BULK AT MOST 1048576: true; the input reads as it did. -/
def fnAdversariesUptoRow : OpenClaim := { program := "ytkipjpfkdkkpdaa", sum := "1cab68e924ccb92965b163efe44f595cc9c20eac3817281425c9b49345da59dc", func := "loop.example/g03403/laws.FnAdversaries", spec := "fnAdversaries", recurses := true, plainKeys := false, apart := false, narrowed := true }
def FnAdversariesUptoSaid : Prop := fnAdversariesUptoRow.holds Try.pinned (OpenSpec.upto fnAdversariesSpec)

end Rows
end Go.Proofs.Ytkipjpfkdkkpdaa
