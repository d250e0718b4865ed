/-
  No cell of these rows narrows 'for every input' (looked for: loops, veiled, ifaces, maps, wideKeys, modest, calm, conditions, laid).
  DERIVED. THE GIVEN ROWS OF THIS SEAT. 12 by the template 'for every input the law returns true; each argument reads behind the call as it read before'; 0 by the template 'total and deterministic' (their statements: YtoacgiccpndbmaaTotals.lean).
  GIVEN WITH THE SEED: the statements are not yours to turn. If you find one false, say at which input.
  Laid BY PROGRAM, IN A SANDBOX (cutbox-rows.mjs): the forced cells as the released guide's own fill.sh prints them over the translation 17516424188c8c74… (all of the seat's roots in one cut). By AI agents, Wed Nov 11 2026. No macro, syntax, notation, axiom, sorry.
-/
import Derived.Test.YtoacgiccpndbmaaChecked
import GoSem.Claim
import GoSem.ClaimJoined
import GoSem.ClaimMapViews
import Derived.JoinedTies
import Derived.KernelRfl
namespace Go.Proofs.Ytoacgiccpndbmaa
/- THE CELL 'sum', in the pinned program and in every row, IS THE sha256 OF THE DUMP (.gsa) THAT YtoacgiccpndbmaaProg.lean LOADS. Nothing in Lean hashes anything: it is a label: what it is worth is what the hold of that sum in a sandbox is worth. -/
noncomputable def Try.pinned : Pinned := { name := "ytoacgiccpndbmaa", sum := "17516424188c8c74d77a30935d27d1e6fcb7561ac3d5bf00b509d12d883343f9", checked := Try.checked }
namespace Rows
def none {H : Type} : Left H := { results := [], args := [] }

/-- 'laws.FnExactMostInfluential': WHATEVER THE INPUT: true; the input reads as it did. -/
def fnExactMostInfluentialSpec : ChangeSpec := { name := "fnExactMostInfluential", fn := fun _ => fun
  | [d] => { results := [.lit (.bool true)], args := [d] }
  | _ => none }
def fnExactMostInfluentialRow : OpenClaim := { program := "ytoacgiccpndbmaa", sum := "17516424188c8c74d77a30935d27d1e6fcb7561ac3d5bf00b509d12d883343f9", func := "loop.example/g03403/laws.FnExactMostInfluential", spec := "fnExactMostInfluential", apart := false }
def FnExactMostInfluentialSaid : Prop := fnExactMostInfluentialRow.holds Try.pinned (OpenSpec.ofChange fnExactMostInfluentialSpec)

/-- ITS FALSE NEIGHBOUR: 'it returns false'. Refute it at one input. -/
def fnExactMostInfluentialWrong : ChangeSpec := { name := "fnExactMostInfluential", fn := fun _ => fun
  | [d] => { results := [.lit (.bool false)], args := [d] }
  | _ => none }
def FnExactMostInfluentialWrongFalsely : Prop := fnExactMostInfluentialRow.holds Try.pinned (OpenSpec.ofChange fnExactMostInfluentialWrong)

/-- 'laws.FnExactDistanceBetween': WHATEVER THE INPUT: true; the input reads as it did. -/
def fnExactDistanceBetweenSpec : ChangeSpec := { name := "fnExactDistanceBetween", fn := fun _ => fun
  | [d1, d2] => { results := [.lit (.bool true)], args := [d1, d2] }
  | _ => none }
def fnExactDistanceBetweenRow : OpenClaim := { program := "ytoacgiccpndbmaa", sum := "17516424188c8c74d77a30935d27d1e6fcb7561ac3d5bf00b509d12d883343f9", func := "loop.example/g03403/laws.FnExactDistanceBetween", spec := "fnExactDistanceBetween", apart := false }
def FnExactDistanceBetweenSaid : Prop := fnExactDistanceBetweenRow.holds Try.pinned (OpenSpec.ofChange fnExactDistanceBetweenSpec)

/-- ITS FALSE NEIGHBOUR: 'it returns false'. Refute it at one input. -/
def fnExactDistanceBetweenWrong : ChangeSpec := { name := "fnExactDistanceBetween", fn := fun _ => fun
  | [d1, d2] => { results := [.lit (.bool false)], args := [d1, d2] }
  | _ => none }
def FnExactDistanceBetweenWrongFalsely : Prop := fnExactDistanceBetweenRow.holds Try.pinned (OpenSpec.ofChange fnExactDistanceBetweenWrong)

/-- 'laws.FnExactTotalInfluence': WHATEVER THE INPUT: true; the input reads as it did. -/
def fnExactTotalInfluenceSpec : ChangeSpec := { name := "fnExactTotalInfluence", fn := fun _ => fun
  | [d] => { results := [.lit (.bool true)], args := [d] }
  | _ => none }
def fnExactTotalInfluenceRow : OpenClaim := { program := "ytoacgiccpndbmaa", sum := "17516424188c8c74d77a30935d27d1e6fcb7561ac3d5bf00b509d12d883343f9", func := "loop.example/g03403/laws.FnExactTotalInfluence", spec := "fnExactTotalInfluence", apart := false }
def FnExactTotalInfluenceSaid : Prop := fnExactTotalInfluenceRow.holds Try.pinned (OpenSpec.ofChange fnExactTotalInfluenceSpec)

/-- ITS FALSE NEIGHBOUR: 'it returns false'. Refute it at one input. -/
def fnExactTotalInfluenceWrong : ChangeSpec := { name := "fnExactTotalInfluence", fn := fun _ => fun
  | [d] => { results := [.lit (.bool false)], args := [d] }
  | _ => none }
def FnExactTotalInfluenceWrongFalsely : Prop := fnExactTotalInfluenceRow.holds Try.pinned (OpenSpec.ofChange fnExactTotalInfluenceWrong)

/-- 'laws.FnExactVarianceOf': WHATEVER THE INPUT: true; the input reads as it did. -/
def fnExactVarianceOfSpec : ChangeSpec := { name := "fnExactVarianceOf", fn := fun _ => fun
  | [d] => { results := [.lit (.bool true)], args := [d] }
  | _ => none }
def fnExactVarianceOfRow : OpenClaim := { program := "ytoacgiccpndbmaa", sum := "17516424188c8c74d77a30935d27d1e6fcb7561ac3d5bf00b509d12d883343f9", func := "loop.example/g03403/laws.FnExactVarianceOf", spec := "fnExactVarianceOf", apart := false }
def FnExactVarianceOfSaid : Prop := fnExactVarianceOfRow.holds Try.pinned (OpenSpec.ofChange fnExactVarianceOfSpec)

/-- ITS FALSE NEIGHBOUR: 'it returns false'. Refute it at one input. -/
def fnExactVarianceOfWrong : ChangeSpec := { name := "fnExactVarianceOf", fn := fun _ => fun
  | [d] => { results := [.lit (.bool false)], args := [d] }
  | _ => none }
def FnExactVarianceOfWrongFalsely : Prop := fnExactVarianceOfRow.holds Try.pinned (OpenSpec.ofChange fnExactVarianceOfWrong)

/-- 'laws.FnExactBlockSensitivityAt': WHATEVER THE INPUT: true; the input reads as it did. -/
def fnExactBlockSensitivityAtSpec : ChangeSpec := { name := "fnExactBlockSensitivityAt", fn := fun _ => fun
  | [d1, d2] => { results := [.lit (.bool true)], args := [d1, d2] }
  | _ => none }
def fnExactBlockSensitivityAtRow : OpenClaim := { program := "ytoacgiccpndbmaa", sum := "17516424188c8c74d77a30935d27d1e6fcb7561ac3d5bf00b509d12d883343f9", func := "loop.example/g03403/laws.FnExactBlockSensitivityAt", spec := "fnExactBlockSensitivityAt", recurses := true, apart := false }
def FnExactBlockSensitivityAtSaid : Prop := fnExactBlockSensitivityAtRow.holds Try.pinned (OpenSpec.ofChange fnExactBlockSensitivityAtSpec)

/-- ITS FALSE NEIGHBOUR: 'it returns false'. Refute it at one input. -/
def fnExactBlockSensitivityAtWrong : ChangeSpec := { name := "fnExactBlockSensitivityAt", fn := fun _ => fun
  | [d1, d2] => { results := [.lit (.bool false)], args := [d1, d2] }
  | _ => none }
def FnExactBlockSensitivityAtWrongFalsely : Prop := fnExactBlockSensitivityAtRow.holds Try.pinned (OpenSpec.ofChange fnExactBlockSensitivityAtWrong)

/-- 'laws.FnExactAutocorrelationOf': WHATEVER THE INPUT: true; the input reads as it did. -/
def fnExactAutocorrelationOfSpec : ChangeSpec := { name := "fnExactAutocorrelationOf", fn := fun _ => fun
  | [d] => { results := [.lit (.bool true)], args := [d] }
  | _ => none }
def fnExactAutocorrelationOfRow : OpenClaim := { program := "ytoacgiccpndbmaa", sum := "17516424188c8c74d77a30935d27d1e6fcb7561ac3d5bf00b509d12d883343f9", func := "loop.example/g03403/laws.FnExactAutocorrelationOf", spec := "fnExactAutocorrelationOf", apart := false }
def FnExactAutocorrelationOfSaid : Prop := fnExactAutocorrelationOfRow.holds Try.pinned (OpenSpec.ofChange fnExactAutocorrelationOfSpec)

/-- ITS FALSE NEIGHBOUR: 'it returns false'. Refute it at one input. -/
def fnExactAutocorrelationOfWrong : ChangeSpec := { name := "fnExactAutocorrelationOf", fn := fun _ => fun
  | [d] => { results := [.lit (.bool false)], args := [d] }
  | _ => none }
def FnExactAutocorrelationOfWrongFalsely : Prop := fnExactAutocorrelationOfRow.holds Try.pinned (OpenSpec.ofChange fnExactAutocorrelationOfWrong)

/-- 'laws.FnExactMinimalBlocks': WHATEVER THE INPUT: true; the input reads as it did. -/
def fnExactMinimalBlocksSpec : ChangeSpec := { name := "fnExactMinimalBlocks", fn := fun _ => fun
  | [d1, d2] => { results := [.lit (.bool true)], args := [d1, d2] }
  | _ => none }
def fnExactMinimalBlocksRow : OpenClaim := { program := "ytoacgiccpndbmaa", sum := "17516424188c8c74d77a30935d27d1e6fcb7561ac3d5bf00b509d12d883343f9", func := "loop.example/g03403/laws.FnExactMinimalBlocks", spec := "fnExactMinimalBlocks", apart := false }
def FnExactMinimalBlocksSaid : Prop := fnExactMinimalBlocksRow.holds Try.pinned (OpenSpec.ofChange fnExactMinimalBlocksSpec)

/-- ITS FALSE NEIGHBOUR: 'it returns false'. Refute it at one input. -/
def fnExactMinimalBlocksWrong : ChangeSpec := { name := "fnExactMinimalBlocks", fn := fun _ => fun
  | [d1, d2] => { results := [.lit (.bool false)], args := [d1, d2] }
  | _ => none }
def FnExactMinimalBlocksWrongFalsely : Prop := fnExactMinimalBlocksRow.holds Try.pinned (OpenSpec.ofChange fnExactMinimalBlocksWrong)

/-- 'laws.FnExactTableOfCoefficients': WHATEVER THE INPUT: true; the input reads as it did. -/
def fnExactTableOfCoefficientsSpec : ChangeSpec := { name := "fnExactTableOfCoefficients", fn := fun _ => fun
  | [d] => { results := [.lit (.bool true)], args := [d] }
  | _ => none }
def fnExactTableOfCoefficientsRow : OpenClaim := { program := "ytoacgiccpndbmaa", sum := "17516424188c8c74d77a30935d27d1e6fcb7561ac3d5bf00b509d12d883343f9", func := "loop.example/g03403/laws.FnExactTableOfCoefficients", spec := "fnExactTableOfCoefficients", apart := false }
def FnExactTableOfCoefficientsSaid : Prop := fnExactTableOfCoefficientsRow.holds Try.pinned (OpenSpec.ofChange fnExactTableOfCoefficientsSpec)

/-- ITS FALSE NEIGHBOUR: 'it returns false'. Refute it at one input. -/
def fnExactTableOfCoefficientsWrong : ChangeSpec := { name := "fnExactTableOfCoefficients", fn := fun _ => fun
  | [d] => { results := [.lit (.bool false)], args := [d] }
  | _ => none }
def FnExactTableOfCoefficientsWrongFalsely : Prop := fnExactTableOfCoefficientsRow.holds Try.pinned (OpenSpec.ofChange fnExactTableOfCoefficientsWrong)

/-- 'laws.FnExactBlockSensitivityOf': WHATEVER THE INPUT: true; the input reads as it did. -/
def fnExactBlockSensitivityOfSpec : ChangeSpec := { name := "fnExactBlockSensitivityOf", fn := fun _ => fun
  | [d] => { results := [.lit (.bool true)], args := [d] }
  | _ => none }
def fnExactBlockSensitivityOfRow : OpenClaim := { program := "ytoacgiccpndbmaa", sum := "17516424188c8c74d77a30935d27d1e6fcb7561ac3d5bf00b509d12d883343f9", func := "loop.example/g03403/laws.FnExactBlockSensitivityOf", spec := "fnExactBlockSensitivityOf", recurses := true, apart := false }
def FnExactBlockSensitivityOfSaid : Prop := fnExactBlockSensitivityOfRow.holds Try.pinned (OpenSpec.ofChange fnExactBlockSensitivityOfSpec)

/-- ITS FALSE NEIGHBOUR: 'it returns false'. Refute it at one input. -/
def fnExactBlockSensitivityOfWrong : ChangeSpec := { name := "fnExactBlockSensitivityOf", fn := fun _ => fun
  | [d] => { results := [.lit (.bool false)], args := [d] }
  | _ => none }
def FnExactBlockSensitivityOfWrongFalsely : Prop := fnExactBlockSensitivityOfRow.holds Try.pinned (OpenSpec.ofChange fnExactBlockSensitivityOfWrong)

/-- 'laws.FnExactQueriesOf': WHATEVER THE INPUT: true; the input reads as it did. -/
def fnExactQueriesOfSpec : ChangeSpec := { name := "fnExactQueriesOf", fn := fun _ => fun
  | [d1, d2] => { results := [.lit (.bool true)], args := [d1, d2] }
  | _ => none }
def fnExactQueriesOfRow : OpenClaim := { program := "ytoacgiccpndbmaa", sum := "17516424188c8c74d77a30935d27d1e6fcb7561ac3d5bf00b509d12d883343f9", func := "loop.example/g03403/laws.FnExactQueriesOf", spec := "fnExactQueriesOf", recurses := true, apart := false }
def FnExactQueriesOfSaid : Prop := fnExactQueriesOfRow.holds Try.pinned (OpenSpec.ofChange fnExactQueriesOfSpec)

/-- ITS FALSE NEIGHBOUR: 'it returns false'. Refute it at one input. -/
def fnExactQueriesOfWrong : ChangeSpec := { name := "fnExactQueriesOf", fn := fun _ => fun
  | [d1, d2] => { results := [.lit (.bool false)], args := [d1, d2] }
  | _ => none }
def FnExactQueriesOfWrongFalsely : Prop := fnExactQueriesOfRow.holds Try.pinned (OpenSpec.ofChange fnExactQueriesOfWrong)

/-- 'laws.FnExactLinearStructures': WHATEVER THE INPUT: true; the input reads as it did. -/
def fnExactLinearStructuresSpec : ChangeSpec := { name := "fnExactLinearStructures", fn := fun _ => fun
  | [d] => { results := [.lit (.bool true)], args := [d] }
  | _ => none }
def fnExactLinearStructuresRow : OpenClaim := { program := "ytoacgiccpndbmaa", sum := "17516424188c8c74d77a30935d27d1e6fcb7561ac3d5bf00b509d12d883343f9", func := "loop.example/g03403/laws.FnExactLinearStructures", spec := "fnExactLinearStructures", apart := false }
def FnExactLinearStructuresSaid : Prop := fnExactLinearStructuresRow.holds Try.pinned (OpenSpec.ofChange fnExactLinearStructuresSpec)

/-- ITS FALSE NEIGHBOUR: 'it returns false'. Refute it at one input. -/
def fnExactLinearStructuresWrong : ChangeSpec := { name := "fnExactLinearStructures", fn := fun _ => fun
  | [d] => { results := [.lit (.bool false)], args := [d] }
  | _ => none }
def FnExactLinearStructuresWrongFalsely : Prop := fnExactLinearStructuresRow.holds Try.pinned (OpenSpec.ofChange fnExactLinearStructuresWrong)

/-- 'laws.FnExactCorrelationImmunity': WHATEVER THE INPUT: true; the input reads as it did. -/
def fnExactCorrelationImmunitySpec : ChangeSpec := { name := "fnExactCorrelationImmunity", fn := fun _ => fun
  | [d] => { results := [.lit (.bool true)], args := [d] }
  | _ => none }
def fnExactCorrelationImmunityRow : OpenClaim := { program := "ytoacgiccpndbmaa", sum := "17516424188c8c74d77a30935d27d1e6fcb7561ac3d5bf00b509d12d883343f9", func := "loop.example/g03403/laws.FnExactCorrelationImmunity", spec := "fnExactCorrelationImmunity", apart := false }
def FnExactCorrelationImmunitySaid : Prop := fnExactCorrelationImmunityRow.holds Try.pinned (OpenSpec.ofChange fnExactCorrelationImmunitySpec)

/-- ITS FALSE NEIGHBOUR: 'it returns false'. Refute it at one input. -/
def fnExactCorrelationImmunityWrong : ChangeSpec := { name := "fnExactCorrelationImmunity", fn := fun _ => fun
  | [d] => { results := [.lit (.bool false)], args := [d] }
  | _ => none }
def FnExactCorrelationImmunityWrongFalsely : Prop := fnExactCorrelationImmunityRow.holds Try.pinned (OpenSpec.ofChange fnExactCorrelationImmunityWrong)

/- THE SECOND FORM. 'bulk': how many values and letters a reading holds, each counted each time it is reached (what is shared counts as often as it is met; a slice's spare places count too). A statement '..UptoSaid' is the law's where the arguments, and the package variables that the reading takes, are together of bulk at most 1048576: NARROWER than '..Said'. Prove '..Said' where nothing that the law and all that it calls make is longer than what came in: it says more and counts as full. Else prove '..UptoSaid'. A law counts once. -/
mutual
def uptoBulk {H : Type} : DataW H → Nat
  | .lit (.string bytes) => bytes.length + 1
  | .lit _ => 1
  | .nil => 1
  | .ptr d => uptoBulk d + 1
  | .slice elems spare => uptoBulkAll elems + uptoBulkAll spare + 1
  | .agg parts => uptoBulkAll parts + 1
  | .iface _ d => uptoBulk d + 1
  | .map entries => uptoBulkEntries entries + 1
  | .held _ => 1
def uptoBulkAll {H : Type} : List (DataW H) → Nat
  | [] => 0
  | d :: r => uptoBulk d + uptoBulkAll r
def uptoBulkEntries {H : Type} : List (Lit × DataW H) → Nat
  | [] => 0
  | x :: r => uptoBulkEntry x + uptoBulkEntries r
def uptoBulkEntry {H : Type} : Lit × DataW H → Nat
  | (.string bytes, d) => bytes.length + uptoBulk d + 1
  | (_, d) => uptoBulk d + 1
 end
def uptoSmall : (H : Type) → List (DataW H) → Bool := fun _ ds => decide (uptoBulkAll ds ≤ 1048576)
def OpenSpec.upto (s : _root_.Go.ChangeSpec) : _root_.Go.OpenSpec := { _root_.Go.OpenSpec.ofChange s with cond := some uptoSmall }

/-- 'laws.FnExactMostInfluential', WHERE WHAT IT READS IS OF BULK AT MOST 1048576: true; the input reads as it did. -/
def fnExactMostInfluentialUptoRow : OpenClaim := { program := "ytoacgiccpndbmaa", sum := "17516424188c8c74d77a30935d27d1e6fcb7561ac3d5bf00b509d12d883343f9", func := "loop.example/g03403/laws.FnExactMostInfluential", spec := "fnExactMostInfluential", apart := false, narrowed := true }
def FnExactMostInfluentialUptoSaid : Prop := fnExactMostInfluentialUptoRow.holds Try.pinned (OpenSpec.upto fnExactMostInfluentialSpec)

/-- 'laws.FnExactDistanceBetween', WHERE WHAT IT READS IS OF BULK AT MOST 1048576: true; the input reads as it did. -/
def fnExactDistanceBetweenUptoRow : OpenClaim := { program := "ytoacgiccpndbmaa", sum := "17516424188c8c74d77a30935d27d1e6fcb7561ac3d5bf00b509d12d883343f9", func := "loop.example/g03403/laws.FnExactDistanceBetween", spec := "fnExactDistanceBetween", apart := false, narrowed := true }
def FnExactDistanceBetweenUptoSaid : Prop := fnExactDistanceBetweenUptoRow.holds Try.pinned (OpenSpec.upto fnExactDistanceBetweenSpec)

/-- 'laws.FnExactTotalInfluence', WHERE WHAT IT READS IS OF BULK AT MOST 1048576: true; the input reads as it did. -/
def fnExactTotalInfluenceUptoRow : OpenClaim := { program := "ytoacgiccpndbmaa", sum := "17516424188c8c74d77a30935d27d1e6fcb7561ac3d5bf00b509d12d883343f9", func := "loop.example/g03403/laws.FnExactTotalInfluence", spec := "fnExactTotalInfluence", apart := false, narrowed := true }
def FnExactTotalInfluenceUptoSaid : Prop := fnExactTotalInfluenceUptoRow.holds Try.pinned (OpenSpec.upto fnExactTotalInfluenceSpec)

/-- 'laws.FnExactVarianceOf', WHERE WHAT IT READS IS OF BULK AT MOST 1048576: true; the input reads as it did. -/
def fnExactVarianceOfUptoRow : OpenClaim := { program := "ytoacgiccpndbmaa", sum := "17516424188c8c74d77a30935d27d1e6fcb7561ac3d5bf00b509d12d883343f9", func := "loop.example/g03403/laws.FnExactVarianceOf", spec := "fnExactVarianceOf", apart := false, narrowed := true }
def FnExactVarianceOfUptoSaid : Prop := fnExactVarianceOfUptoRow.holds Try.pinned (OpenSpec.upto fnExactVarianceOfSpec)

/-- 'laws.FnExactBlockSensitivityAt', WHERE WHAT IT READS IS OF BULK AT MOST 1048576: true; the input reads as it did. -/
def fnExactBlockSensitivityAtUptoRow : OpenClaim := { program := "ytoacgiccpndbmaa", sum := "17516424188c8c74d77a30935d27d1e6fcb7561ac3d5bf00b509d12d883343f9", func := "loop.example/g03403/laws.FnExactBlockSensitivityAt", spec := "fnExactBlockSensitivityAt", recurses := true, apart := false, narrowed := true }
def FnExactBlockSensitivityAtUptoSaid : Prop := fnExactBlockSensitivityAtUptoRow.holds Try.pinned (OpenSpec.upto fnExactBlockSensitivityAtSpec)

/-- 'laws.FnExactAutocorrelationOf', WHERE WHAT IT READS IS OF BULK AT MOST 1048576: true; the input reads as it did. -/
def fnExactAutocorrelationOfUptoRow : OpenClaim := { program := "ytoacgiccpndbmaa", sum := "17516424188c8c74d77a30935d27d1e6fcb7561ac3d5bf00b509d12d883343f9", func := "loop.example/g03403/laws.FnExactAutocorrelationOf", spec := "fnExactAutocorrelationOf", apart := false, narrowed := true }
def FnExactAutocorrelationOfUptoSaid : Prop := fnExactAutocorrelationOfUptoRow.holds Try.pinned (OpenSpec.upto fnExactAutocorrelationOfSpec)

/-- 'laws.FnExactMinimalBlocks', WHERE WHAT IT READS IS OF BULK AT MOST 1048576: true; the input reads as it did. -/
def fnExactMinimalBlocksUptoRow : OpenClaim := { program := "ytoacgiccpndbmaa", sum := "17516424188c8c74d77a30935d27d1e6fcb7561ac3d5bf00b509d12d883343f9", func := "loop.example/g03403/laws.FnExactMinimalBlocks", spec := "fnExactMinimalBlocks", apart := false, narrowed := true }
def FnExactMinimalBlocksUptoSaid : Prop := fnExactMinimalBlocksUptoRow.holds Try.pinned (OpenSpec.upto fnExactMinimalBlocksSpec)

/-- 'laws.FnExactTableOfCoefficients', WHERE WHAT IT READS IS OF BULK AT MOST 1048576: true; the input reads as it did. -/
def fnExactTableOfCoefficientsUptoRow : OpenClaim := { program := "ytoacgiccpndbmaa", sum := "17516424188c8c74d77a30935d27d1e6fcb7561ac3d5bf00b509d12d883343f9", func := "loop.example/g03403/laws.FnExactTableOfCoefficients", spec := "fnExactTableOfCoefficients", apart := false, narrowed := true }
def FnExactTableOfCoefficientsUptoSaid : Prop := fnExactTableOfCoefficientsUptoRow.holds Try.pinned (OpenSpec.upto fnExactTableOfCoefficientsSpec)

/-- 'laws.FnExactBlockSensitivityOf', WHERE WHAT IT READS IS OF BULK AT MOST 1048576: true; the input reads as it did. -/
def fnExactBlockSensitivityOfUptoRow : OpenClaim := { program := "ytoacgiccpndbmaa", sum := "17516424188c8c74d77a30935d27d1e6fcb7561ac3d5bf00b509d12d883343f9", func := "loop.example/g03403/laws.FnExactBlockSensitivityOf", spec := "fnExactBlockSensitivityOf", recurses := true, apart := false, narrowed := true }
def FnExactBlockSensitivityOfUptoSaid : Prop := fnExactBlockSensitivityOfUptoRow.holds Try.pinned (OpenSpec.upto fnExactBlockSensitivityOfSpec)

/-- 'laws.FnExactQueriesOf', WHERE WHAT IT READS IS OF BULK AT MOST 1048576: true; the input reads as it did. -/
def fnExactQueriesOfUptoRow : OpenClaim := { program := "ytoacgiccpndbmaa", sum := "17516424188c8c74d77a30935d27d1e6fcb7561ac3d5bf00b509d12d883343f9", func := "loop.example/g03403/laws.FnExactQueriesOf", spec := "fnExactQueriesOf", recurses := true, apart := false, narrowed := true }
def FnExactQueriesOfUptoSaid : Prop := fnExactQueriesOfUptoRow.holds Try.pinned (OpenSpec.upto fnExactQueriesOfSpec)

/-- 'laws.FnExactLinearStructures', WHERE WHAT IT READS IS OF BULK AT MOST 1048576: true; the input reads as it did. -/
def fnExactLinearStructuresUptoRow : OpenClaim := { program := "ytoacgiccpndbmaa", sum := "17516424188c8c74d77a30935d27d1e6fcb7561ac3d5bf00b509d12d883343f9", func := "loop.example/g03403/laws.FnExactLinearStructures", spec := "fnExactLinearStructures", apart := false, narrowed := true }
def FnExactLinearStructuresUptoSaid : Prop := fnExactLinearStructuresUptoRow.holds Try.pinned (OpenSpec.upto fnExactLinearStructuresSpec)

/-- 'laws.FnExactCorrelationImmunity', WHERE WHAT IT READS IS OF BULK AT MOST 1048576: true; the input reads as it did. -/
def fnExactCorrelationImmunityUptoRow : OpenClaim := { program := "ytoacgiccpndbmaa", sum := "17516424188c8c74d77a30935d27d1e6fcb7561ac3d5bf00b509d12d883343f9", func := "loop.example/g03403/laws.FnExactCorrelationImmunity", spec := "fnExactCorrelationImmunity", apart := false, narrowed := true }
def FnExactCorrelationImmunityUptoSaid : Prop := fnExactCorrelationImmunityUptoRow.holds Try.pinned (OpenSpec.upto fnExactCorrelationImmunitySpec)

end Rows
end Go.Proofs.Ytoacgiccpndbmaa
