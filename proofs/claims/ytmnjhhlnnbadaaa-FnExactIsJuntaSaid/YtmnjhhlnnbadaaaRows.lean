/-
  No cell of these rows narrows 'for every input' (looked for: loops, veiled, ifaces, maps, wideKeys, modest, calm, conditions, laid).
  DERIVED. THE GIVEN ROWS OF THIS SEAT. 11 by the template 'for every input the law returns true; each argument reads behind the call as it read before'; 0 by the template 'total and deterministic' (their statements: YtmnjhhlnnbadaaaTotals.lean).
  GIVEN WITH THE SEED: the statements are not yours to turn. If you find one false, say at which input.
  Laid BY PROGRAM, IN A SANDBOX (cutbox-rows.mjs): the forced cells as the released guide's own fill.sh prints them over the translation 2ddac3126531d211… (all of the seat's roots in one cut). By AI agents, Wed Nov 11 2026. No macro, syntax, notation, axiom, sorry.
-/
import Derived.Test.YtmnjhhlnnbadaaaChecked
import GoSem.Claim
import GoSem.ClaimJoined
import GoSem.ClaimMapViews
import Derived.JoinedTies
import Derived.KernelRfl
namespace Go.Proofs.Ytmnjhhlnnbadaaa
/- THE CELL 'sum', in the pinned program and in every row, IS THE sha256 OF THE DUMP (.gsa) THAT YtmnjhhlnnbadaaaProg.lean LOADS. Nothing in Lean hashes anything: it is a label: what it is worth is what the hold of that sum in a sandbox is worth. -/
noncomputable def Try.pinned : Pinned := { name := "ytmnjhhlnnbadaaa", sum := "2ddac3126531d211bbeba2a8424a589153d6e715ef4eb4f76a1e850ae2a1b97a", checked := Try.checked }
namespace Rows
def none {H : Type} : Left H := { results := [], args := [] }

/-- 'laws.FnExactAnfOf': WHATEVER THE INPUT: true; the input reads as it did. -/
def fnExactAnfOfSpec : ChangeSpec := { name := "fnExactAnfOf", fn := fun _ => fun
  | [d] => { results := [.lit (.bool true)], args := [d] }
  | _ => none }
def fnExactAnfOfRow : OpenClaim := { program := "ytmnjhhlnnbadaaa", sum := "2ddac3126531d211bbeba2a8424a589153d6e715ef4eb4f76a1e850ae2a1b97a", func := "loop.example/g03403/laws.FnExactAnfOf", spec := "fnExactAnfOf", unfollowed := true, recurses := true, apart := false }
def FnExactAnfOfSaid : Prop := fnExactAnfOfRow.holds Try.pinned (OpenSpec.ofChange fnExactAnfOfSpec)

/-- ITS FALSE NEIGHBOUR: 'it returns false'. Refute it at one input. -/
def fnExactAnfOfWrong : ChangeSpec := { name := "fnExactAnfOf", fn := fun _ => fun
  | [d] => { results := [.lit (.bool false)], args := [d] }
  | _ => none }
def FnExactAnfOfWrongFalsely : Prop := fnExactAnfOfRow.holds Try.pinned (OpenSpec.ofChange fnExactAnfOfWrong)

/-- 'laws.FnExactAffineTable': WHATEVER THE INPUT: true; the input reads as it did. -/
def fnExactAffineTableSpec : ChangeSpec := { name := "fnExactAffineTable", fn := fun _ => fun
  | [d1, d2, d3] => { results := [.lit (.bool true)], args := [d1, d2, d3] }
  | _ => none }
def fnExactAffineTableRow : OpenClaim := { program := "ytmnjhhlnnbadaaa", sum := "2ddac3126531d211bbeba2a8424a589153d6e715ef4eb4f76a1e850ae2a1b97a", func := "loop.example/g03403/laws.FnExactAffineTable", spec := "fnExactAffineTable", unfollowed := true, recurses := true, apart := false }
def FnExactAffineTableSaid : Prop := fnExactAffineTableRow.holds Try.pinned (OpenSpec.ofChange fnExactAffineTableSpec)

/-- ITS FALSE NEIGHBOUR: 'it returns false'. Refute it at one input. -/
def fnExactAffineTableWrong : ChangeSpec := { name := "fnExactAffineTable", fn := fun _ => fun
  | [d1, d2, d3] => { results := [.lit (.bool false)], args := [d1, d2, d3] }
  | _ => none }
def FnExactAffineTableWrongFalsely : Prop := fnExactAffineTableRow.holds Try.pinned (OpenSpec.ofChange fnExactAffineTableWrong)

/-- 'laws.FnExactIsJunta': WHATEVER THE INPUT: true; the input reads as it did. -/
def fnExactIsJuntaSpec : ChangeSpec := { name := "fnExactIsJunta", fn := fun _ => fun
  | [d1, d2] => { results := [.lit (.bool true)], args := [d1, d2] }
  | _ => none }
def fnExactIsJuntaRow : OpenClaim := { program := "ytmnjhhlnnbadaaa", sum := "2ddac3126531d211bbeba2a8424a589153d6e715ef4eb4f76a1e850ae2a1b97a", func := "loop.example/g03403/laws.FnExactIsJunta", spec := "fnExactIsJunta", unfollowed := true, recurses := true, apart := false }
def FnExactIsJuntaSaid : Prop := fnExactIsJuntaRow.holds Try.pinned (OpenSpec.ofChange fnExactIsJuntaSpec)

/-- ITS FALSE NEIGHBOUR: 'it returns false'. Refute it at one input. -/
def fnExactIsJuntaWrong : ChangeSpec := { name := "fnExactIsJunta", fn := fun _ => fun
  | [d1, d2] => { results := [.lit (.bool false)], args := [d1, d2] }
  | _ => none }
def FnExactIsJuntaWrongFalsely : Prop := fnExactIsJuntaRow.holds Try.pinned (OpenSpec.ofChange fnExactIsJuntaWrong)

/-- 'laws.FnExactDegreeMod2': WHATEVER THE INPUT: true; the input reads as it did. -/
def fnExactDegreeMod2Spec : ChangeSpec := { name := "fnExactDegreeMod2", fn := fun _ => fun
  | [d] => { results := [.lit (.bool true)], args := [d] }
  | _ => none }
def fnExactDegreeMod2Row : OpenClaim := { program := "ytmnjhhlnnbadaaa", sum := "2ddac3126531d211bbeba2a8424a589153d6e715ef4eb4f76a1e850ae2a1b97a", func := "loop.example/g03403/laws.FnExactDegreeMod2", spec := "fnExactDegreeMod2", unfollowed := true, recurses := true, apart := false }
def FnExactDegreeMod2Said : Prop := fnExactDegreeMod2Row.holds Try.pinned (OpenSpec.ofChange fnExactDegreeMod2Spec)

/-- ITS FALSE NEIGHBOUR: 'it returns false'. Refute it at one input. -/
def fnExactDegreeMod2Wrong : ChangeSpec := { name := "fnExactDegreeMod2", fn := fun _ => fun
  | [d] => { results := [.lit (.bool false)], args := [d] }
  | _ => none }
def FnExactDegreeMod2WrongFalsely : Prop := fnExactDegreeMod2Row.holds Try.pinned (OpenSpec.ofChange fnExactDegreeMod2Wrong)

/-- 'laws.FnExactRealDegree': WHATEVER THE INPUT: true; the input reads as it did. -/
def fnExactRealDegreeSpec : ChangeSpec := { name := "fnExactRealDegree", fn := fun _ => fun
  | [d] => { results := [.lit (.bool true)], args := [d] }
  | _ => none }
def fnExactRealDegreeRow : OpenClaim := { program := "ytmnjhhlnnbadaaa", sum := "2ddac3126531d211bbeba2a8424a589153d6e715ef4eb4f76a1e850ae2a1b97a", func := "loop.example/g03403/laws.FnExactRealDegree", spec := "fnExactRealDegree", unfollowed := true, recurses := true, apart := false }
def FnExactRealDegreeSaid : Prop := fnExactRealDegreeRow.holds Try.pinned (OpenSpec.ofChange fnExactRealDegreeSpec)

/-- ITS FALSE NEIGHBOUR: 'it returns false'. Refute it at one input. -/
def fnExactRealDegreeWrong : ChangeSpec := { name := "fnExactRealDegree", fn := fun _ => fun
  | [d] => { results := [.lit (.bool false)], args := [d] }
  | _ => none }
def FnExactRealDegreeWrongFalsely : Prop := fnExactRealDegreeRow.holds Try.pinned (OpenSpec.ofChange fnExactRealDegreeWrong)

/-- 'laws.FnExactDualOfBent': WHATEVER THE INPUT: true; the input reads as it did. -/
def fnExactDualOfBentSpec : ChangeSpec := { name := "fnExactDualOfBent", fn := fun _ => fun
  | [d] => { results := [.lit (.bool true)], args := [d] }
  | _ => none }
def fnExactDualOfBentRow : OpenClaim := { program := "ytmnjhhlnnbadaaa", sum := "2ddac3126531d211bbeba2a8424a589153d6e715ef4eb4f76a1e850ae2a1b97a", func := "loop.example/g03403/laws.FnExactDualOfBent", spec := "fnExactDualOfBent", unfollowed := true, recurses := true, apart := false }
def FnExactDualOfBentSaid : Prop := fnExactDualOfBentRow.holds Try.pinned (OpenSpec.ofChange fnExactDualOfBentSpec)

/-- ITS FALSE NEIGHBOUR: 'it returns false'. Refute it at one input. -/
def fnExactDualOfBentWrong : ChangeSpec := { name := "fnExactDualOfBent", fn := fun _ => fun
  | [d] => { results := [.lit (.bool false)], args := [d] }
  | _ => none }
def FnExactDualOfBentWrongFalsely : Prop := fnExactDualOfBentRow.holds Try.pinned (OpenSpec.ofChange fnExactDualOfBentWrong)

/-- 'laws.FnExactIsBent': WHATEVER THE INPUT: true; the input reads as it did. -/
def fnExactIsBentSpec : ChangeSpec := { name := "fnExactIsBent", fn := fun _ => fun
  | [d] => { results := [.lit (.bool true)], args := [d] }
  | _ => none }
def fnExactIsBentRow : OpenClaim := { program := "ytmnjhhlnnbadaaa", sum := "2ddac3126531d211bbeba2a8424a589153d6e715ef4eb4f76a1e850ae2a1b97a", func := "loop.example/g03403/laws.FnExactIsBent", spec := "fnExactIsBent", unfollowed := true, recurses := true, apart := false }
def FnExactIsBentSaid : Prop := fnExactIsBentRow.holds Try.pinned (OpenSpec.ofChange fnExactIsBentSpec)

/-- ITS FALSE NEIGHBOUR: 'it returns false'. Refute it at one input. -/
def fnExactIsBentWrong : ChangeSpec := { name := "fnExactIsBent", fn := fun _ => fun
  | [d] => { results := [.lit (.bool false)], args := [d] }
  | _ => none }
def FnExactIsBentWrongFalsely : Prop := fnExactIsBentRow.holds Try.pinned (OpenSpec.ofChange fnExactIsBentWrong)

/-- 'laws.FnExactTableOfTree': WHATEVER THE INPUT: true; the input reads as it did. -/
def fnExactTableOfTreeSpec : ChangeSpec := { name := "fnExactTableOfTree", fn := fun _ => fun
  | [d1, d2] => { results := [.lit (.bool true)], args := [d1, d2] }
  | _ => none }
def fnExactTableOfTreeRow : OpenClaim := { program := "ytmnjhhlnnbadaaa", sum := "2ddac3126531d211bbeba2a8424a589153d6e715ef4eb4f76a1e850ae2a1b97a", func := "loop.example/g03403/laws.FnExactTableOfTree", spec := "fnExactTableOfTree", unfollowed := true, recurses := true, apart := false }
def FnExactTableOfTreeSaid : Prop := fnExactTableOfTreeRow.holds Try.pinned (OpenSpec.ofChange fnExactTableOfTreeSpec)

/-- ITS FALSE NEIGHBOUR: 'it returns false'. Refute it at one input. -/
def fnExactTableOfTreeWrong : ChangeSpec := { name := "fnExactTableOfTree", fn := fun _ => fun
  | [d1, d2] => { results := [.lit (.bool false)], args := [d1, d2] }
  | _ => none }
def FnExactTableOfTreeWrongFalsely : Prop := fnExactTableOfTreeRow.holds Try.pinned (OpenSpec.ofChange fnExactTableOfTreeWrong)

/-- 'laws.FnExactAverageOf': WHATEVER THE INPUT: true; the input reads as it did. -/
def fnExactAverageOfSpec : ChangeSpec := { name := "fnExactAverageOf", fn := fun _ => fun
  | [d1, d2] => { results := [.lit (.bool true)], args := [d1, d2] }
  | _ => none }
def fnExactAverageOfRow : OpenClaim := { program := "ytmnjhhlnnbadaaa", sum := "2ddac3126531d211bbeba2a8424a589153d6e715ef4eb4f76a1e850ae2a1b97a", func := "loop.example/g03403/laws.FnExactAverageOf", spec := "fnExactAverageOf", unfollowed := true, recurses := true, apart := false }
def FnExactAverageOfSaid : Prop := fnExactAverageOfRow.holds Try.pinned (OpenSpec.ofChange fnExactAverageOfSpec)

/-- ITS FALSE NEIGHBOUR: 'it returns false'. Refute it at one input. -/
def fnExactAverageOfWrong : ChangeSpec := { name := "fnExactAverageOf", fn := fun _ => fun
  | [d1, d2] => { results := [.lit (.bool false)], args := [d1, d2] }
  | _ => none }
def FnExactAverageOfWrongFalsely : Prop := fnExactAverageOfRow.holds Try.pinned (OpenSpec.ofChange fnExactAverageOfWrong)

/-- 'laws.FnExactTableOfFormula': WHATEVER THE INPUT: true; the input reads as it did. -/
def fnExactTableOfFormulaSpec : ChangeSpec := { name := "fnExactTableOfFormula", fn := fun _ => fun
  | [d1, d2] => { results := [.lit (.bool true)], args := [d1, d2] }
  | _ => none }
def fnExactTableOfFormulaRow : OpenClaim := { program := "ytmnjhhlnnbadaaa", sum := "2ddac3126531d211bbeba2a8424a589153d6e715ef4eb4f76a1e850ae2a1b97a", func := "loop.example/g03403/laws.FnExactTableOfFormula", spec := "fnExactTableOfFormula", unfollowed := true, recurses := true, apart := false }
def FnExactTableOfFormulaSaid : Prop := fnExactTableOfFormulaRow.holds Try.pinned (OpenSpec.ofChange fnExactTableOfFormulaSpec)

/-- ITS FALSE NEIGHBOUR: 'it returns false'. Refute it at one input. -/
def fnExactTableOfFormulaWrong : ChangeSpec := { name := "fnExactTableOfFormula", fn := fun _ => fun
  | [d1, d2] => { results := [.lit (.bool false)], args := [d1, d2] }
  | _ => none }
def FnExactTableOfFormulaWrongFalsely : Prop := fnExactTableOfFormulaRow.holds Try.pinned (OpenSpec.ofChange fnExactTableOfFormulaWrong)

/-- 'laws.FnExactFormatAnf': WHATEVER THE INPUT: true; the input reads as it did. -/
def fnExactFormatAnfSpec : ChangeSpec := { name := "fnExactFormatAnf", fn := fun _ => fun
  | [d] => { results := [.lit (.bool true)], args := [d] }
  | _ => none }
def fnExactFormatAnfRow : OpenClaim := { program := "ytmnjhhlnnbadaaa", sum := "2ddac3126531d211bbeba2a8424a589153d6e715ef4eb4f76a1e850ae2a1b97a", func := "loop.example/g03403/laws.FnExactFormatAnf", spec := "fnExactFormatAnf", inPlace := ["internal/abi.NoEscape", "internal/bytealg.MakeNoZero"], unfollowed := true, recurses := true, apart := false }
def FnExactFormatAnfSaid : Prop := fnExactFormatAnfRow.holds Try.pinned (OpenSpec.ofChange fnExactFormatAnfSpec)

/-- ITS FALSE NEIGHBOUR: 'it returns false'. Refute it at one input. -/
def fnExactFormatAnfWrong : ChangeSpec := { name := "fnExactFormatAnf", fn := fun _ => fun
  | [d] => { results := [.lit (.bool false)], args := [d] }
  | _ => none }
def FnExactFormatAnfWrongFalsely : Prop := fnExactFormatAnfRow.holds Try.pinned (OpenSpec.ofChange fnExactFormatAnfWrong)

/- THE SECOND FORM. 'bulk': how many values and letters a reading holds, each counted each time it is reached (what is shared counts as often as it is met; a slice's spare places count too). A statement '..UptoSaid' is the law's where the arguments, and the package variables that the reading takes, are together of bulk at most 1048576: NARROWER than '..Said'. Prove '..Said' where nothing that the law and all that it calls make is longer than what came in: it says more and counts as full. Else prove '..UptoSaid'. A law counts once. -/
mutual
def uptoBulk {H : Type} : DataW H → Nat
  | .lit (.string bytes) => bytes.length + 1
  | .lit _ => 1
  | .nil => 1
  | .ptr d => uptoBulk d + 1
  | .slice elems spare => uptoBulkAll elems + uptoBulkAll spare + 1
  | .agg parts => uptoBulkAll parts + 1
  | .iface _ d => uptoBulk d + 1
  | .map entries => uptoBulkEntries entries + 1
  | .held _ => 1
def uptoBulkAll {H : Type} : List (DataW H) → Nat
  | [] => 0
  | d :: r => uptoBulk d + uptoBulkAll r
def uptoBulkEntries {H : Type} : List (Lit × DataW H) → Nat
  | [] => 0
  | x :: r => uptoBulkEntry x + uptoBulkEntries r
def uptoBulkEntry {H : Type} : Lit × DataW H → Nat
  | (.string bytes, d) => bytes.length + uptoBulk d + 1
  | (_, d) => uptoBulk d + 1
 end
def uptoSmall : (H : Type) → List (DataW H) → Bool := fun _ ds => decide (uptoBulkAll ds ≤ 1048576)
def OpenSpec.upto (s : _root_.Go.ChangeSpec) : _root_.Go.OpenSpec := { _root_.Go.OpenSpec.ofChange s with cond := some uptoSmall }

/-- 'laws.FnExactAnfOf', WHERE WHAT IT READS IS OF BULK AT MOST 1048576: true; the input reads as it did. -/
def fnExactAnfOfUptoRow : OpenClaim := { program := "ytmnjhhlnnbadaaa", sum := "2ddac3126531d211bbeba2a8424a589153d6e715ef4eb4f76a1e850ae2a1b97a", func := "loop.example/g03403/laws.FnExactAnfOf", spec := "fnExactAnfOf", unfollowed := true, recurses := true, apart := false, narrowed := true }
def FnExactAnfOfUptoSaid : Prop := fnExactAnfOfUptoRow.holds Try.pinned (OpenSpec.upto fnExactAnfOfSpec)

/-- 'laws.FnExactAffineTable', WHERE WHAT IT READS IS OF BULK AT MOST 1048576: true; the input reads as it did. -/
def fnExactAffineTableUptoRow : OpenClaim := { program := "ytmnjhhlnnbadaaa", sum := "2ddac3126531d211bbeba2a8424a589153d6e715ef4eb4f76a1e850ae2a1b97a", func := "loop.example/g03403/laws.FnExactAffineTable", spec := "fnExactAffineTable", unfollowed := true, recurses := true, apart := false, narrowed := true }
def FnExactAffineTableUptoSaid : Prop := fnExactAffineTableUptoRow.holds Try.pinned (OpenSpec.upto fnExactAffineTableSpec)

/-- 'laws.FnExactIsJunta', WHERE WHAT IT READS IS OF BULK AT MOST 1048576: true; the input reads as it did. -/
def fnExactIsJuntaUptoRow : OpenClaim := { program := "ytmnjhhlnnbadaaa", sum := "2ddac3126531d211bbeba2a8424a589153d6e715ef4eb4f76a1e850ae2a1b97a", func := "loop.example/g03403/laws.FnExactIsJunta", spec := "fnExactIsJunta", unfollowed := true, recurses := true, apart := false, narrowed := true }
def FnExactIsJuntaUptoSaid : Prop := fnExactIsJuntaUptoRow.holds Try.pinned (OpenSpec.upto fnExactIsJuntaSpec)

/-- 'laws.FnExactDegreeMod2', WHERE WHAT IT READS IS OF BULK AT MOST 1048576: true; the input reads as it did. -/
def fnExactDegreeMod2UptoRow : OpenClaim := { program := "ytmnjhhlnnbadaaa", sum := "2ddac3126531d211bbeba2a8424a589153d6e715ef4eb4f76a1e850ae2a1b97a", func := "loop.example/g03403/laws.FnExactDegreeMod2", spec := "fnExactDegreeMod2", unfollowed := true, recurses := true, apart := false, narrowed := true }
def FnExactDegreeMod2UptoSaid : Prop := fnExactDegreeMod2UptoRow.holds Try.pinned (OpenSpec.upto fnExactDegreeMod2Spec)

/-- 'laws.FnExactRealDegree', WHERE WHAT IT READS IS OF BULK AT MOST 1048576: true; the input reads as it did. -/
def fnExactRealDegreeUptoRow : OpenClaim := { program := "ytmnjhhlnnbadaaa", sum := "2ddac3126531d211bbeba2a8424a589153d6e715ef4eb4f76a1e850ae2a1b97a", func := "loop.example/g03403/laws.FnExactRealDegree", spec := "fnExactRealDegree", unfollowed := true, recurses := true, apart := false, narrowed := true }
def FnExactRealDegreeUptoSaid : Prop := fnExactRealDegreeUptoRow.holds Try.pinned (OpenSpec.upto fnExactRealDegreeSpec)

/-- 'laws.FnExactDualOfBent', WHERE WHAT IT READS IS OF BULK AT MOST 1048576: true; the input reads as it did. -/
def fnExactDualOfBentUptoRow : OpenClaim := { program := "ytmnjhhlnnbadaaa", sum := "2ddac3126531d211bbeba2a8424a589153d6e715ef4eb4f76a1e850ae2a1b97a", func := "loop.example/g03403/laws.FnExactDualOfBent", spec := "fnExactDualOfBent", unfollowed := true, recurses := true, apart := false, narrowed := true }
def FnExactDualOfBentUptoSaid : Prop := fnExactDualOfBentUptoRow.holds Try.pinned (OpenSpec.upto fnExactDualOfBentSpec)

/-- 'laws.FnExactIsBent', WHERE WHAT IT READS IS OF BULK AT MOST 1048576: true; the input reads as it did. -/
def fnExactIsBentUptoRow : OpenClaim := { program := "ytmnjhhlnnbadaaa", sum := "2ddac3126531d211bbeba2a8424a589153d6e715ef4eb4f76a1e850ae2a1b97a", func := "loop.example/g03403/laws.FnExactIsBent", spec := "fnExactIsBent", unfollowed := true, recurses := true, apart := false, narrowed := true }
def FnExactIsBentUptoSaid : Prop := fnExactIsBentUptoRow.holds Try.pinned (OpenSpec.upto fnExactIsBentSpec)

/-- 'laws.FnExactTableOfTree', WHERE WHAT IT READS IS OF BULK AT MOST 1048576: true; the input reads as it did. -/
def fnExactTableOfTreeUptoRow : OpenClaim := { program := "ytmnjhhlnnbadaaa", sum := "2ddac3126531d211bbeba2a8424a589153d6e715ef4eb4f76a1e850ae2a1b97a", func := "loop.example/g03403/laws.FnExactTableOfTree", spec := "fnExactTableOfTree", unfollowed := true, recurses := true, apart := false, narrowed := true }
def FnExactTableOfTreeUptoSaid : Prop := fnExactTableOfTreeUptoRow.holds Try.pinned (OpenSpec.upto fnExactTableOfTreeSpec)

/-- 'laws.FnExactAverageOf', WHERE WHAT IT READS IS OF BULK AT MOST 1048576: true; the input reads as it did. -/
def fnExactAverageOfUptoRow : OpenClaim := { program := "ytmnjhhlnnbadaaa", sum := "2ddac3126531d211bbeba2a8424a589153d6e715ef4eb4f76a1e850ae2a1b97a", func := "loop.example/g03403/laws.FnExactAverageOf", spec := "fnExactAverageOf", unfollowed := true, recurses := true, apart := false, narrowed := true }
def FnExactAverageOfUptoSaid : Prop := fnExactAverageOfUptoRow.holds Try.pinned (OpenSpec.upto fnExactAverageOfSpec)

/-- 'laws.FnExactTableOfFormula', WHERE WHAT IT READS IS OF BULK AT MOST 1048576: true; the input reads as it did. -/
def fnExactTableOfFormulaUptoRow : OpenClaim := { program := "ytmnjhhlnnbadaaa", sum := "2ddac3126531d211bbeba2a8424a589153d6e715ef4eb4f76a1e850ae2a1b97a", func := "loop.example/g03403/laws.FnExactTableOfFormula", spec := "fnExactTableOfFormula", unfollowed := true, recurses := true, apart := false, narrowed := true }
def FnExactTableOfFormulaUptoSaid : Prop := fnExactTableOfFormulaUptoRow.holds Try.pinned (OpenSpec.upto fnExactTableOfFormulaSpec)

/-- 'laws.FnExactFormatAnf', WHERE WHAT IT READS IS OF BULK AT MOST 1048576: true; the input reads as it did. -/
def fnExactFormatAnfUptoRow : OpenClaim := { program := "ytmnjhhlnnbadaaa", sum := "2ddac3126531d211bbeba2a8424a589153d6e715ef4eb4f76a1e850ae2a1b97a", func := "loop.example/g03403/laws.FnExactFormatAnf", spec := "fnExactFormatAnf", inPlace := ["internal/abi.NoEscape", "internal/bytealg.MakeNoZero"], unfollowed := true, recurses := true, apart := false, narrowed := true }
def FnExactFormatAnfUptoSaid : Prop := fnExactFormatAnfUptoRow.holds Try.pinned (OpenSpec.upto fnExactFormatAnfSpec)

end Rows
end Go.Proofs.Ytmnjhhlnnbadaaa
